import PyProof.Rows.All
import Wide.All
import OpenK.AllK
import Wide.FinOn
import HandS.ForMost
import HandS.ForExc
import HandS.CallSlots
import HandS.TupAny
import HandS.TupMul
import HandS.Wide
import HandS.Deep
import HandS.TryOnly
import KE.GoesNew
import KE.GoesMore
import HandS.Zip
import HandS.Iter
import HandS.Comp
import HandS.Defaults
import HandS.ExcOwn
import HandS.WordsExc
import HandS.Style
import HandS.More
import HandS.Dict
import PyProof.ReprRoads
import HandS.HeadEnd
import HandS.EndBits
import HandS.Head0
import HandS.Head1
import HandS.Head2
import HandS.HeadHook1
import HandS.HeadHook2
import KE.KExcSuper
import HandS.ExcInit
import HandS.ExcIs
import HandS.ExcField
import PySem.Challenge.RW_formspaces_k80_whole_main_squares_summed
set_option Elab.async false
set_option linter.all false
set_option maxRecDepth 100000
/-! Fe1: abstract values, states, the relation to the abstract heap of HandS. -/
namespace Fe
open PySem PySem.Spec PyProof.Rows L2

inductive AV where
  | dat (d : PyData)
  | own (ds : List PyData)
  | pk (i : Nat)
  | obj (l : Nat)
  | scr (ns : List Int)
inductive SO where
  | lst (xs : List AV)
  | dic (kvs : List (Str × AV))
  | ins (c : Str) (fs : List (Str × AV))
structure Sx where
  env : List (Option AV)
  sto : List SO
structure Exc where
  c : Str
  fs : List (Str × PyData)
inductive Res (α : Type) where
  | ok (a : α) (s : Sx)
  | exc (e : Exc) (s : Sx)
  | stuck
def Res.bind {α β : Type} (r : Res α) (f : α → Sx → Res β) : Res β := match r with
  | .ok a s => f a s
  | .exc e s => .exc e s
  | .stuck => .stuck

inductive Tag where
  | data | stk (n : Nat) | slot (i : Nat) | obj (l : Nat) | fr
  deriving DecidableEq
def dh (T : Addr → Tag) (H : Hp) : Hp := fun a => if T a = .data then H a else none
structure Kx where
  K : PySem.W.Frag
  mg : Str → Option Value
structure Fx where
  fr : Hp
  B : Hp
  n0 : Nat
  mu0 : Nat → Addr

theorem dh_some {T : Addr → Tag} {H : Hp} {a : Addr} {o : HO} : dh T H a = some o ↔ T a = .data ∧ H a = some o := by
  unfold dh
  split
  · rename_i h; simp [h]
  · rename_i h; simp [h]

/-! ### data of any depth: as HandS's Dp, but every list is tracked as such; the empty dict besides -/
mutual
inductive Dq (K : PySem.W.Frag) (H : Hp) : V → PyData → Prop
  | non : Dq K H .non .none
  | bl (b : Bool) : Dq K H (.bl b) (.bool b)
  | int (i : Int) : Dq K H (.int i) (.int i)
  | str (x : Str) : Dq K H (.str x) (.str x)
  | lst {a : Addr} {xs : List V} {ds : List PyData} : H a = some (.lst xs) → DqAll K H xs ds → Dq K H (.ref a) (.list ds)
  | tup {a : Addr} {xs : List V} {ds : List PyData} : SqT K H a xs → DqAll K H xs ds → Dq K H (.ref a) (.tuple ds)
  | dic0 {a : Addr} : H a = some (.dK []) → Dq K H (.ref a) (.dict [])
inductive DqAll (K : PySem.W.Frag) (H : Hp) : List V → List PyData → Prop
  | nil : DqAll K H [] []
  | cons {v : V} {vs : List V} {d : PyData} {ds : List PyData} : Dq K H v d → DqAll K H vs ds → DqAll K H (v :: vs) (d :: ds)
end
/-! ### data grows -/
def Le (H H' : Hp) : Prop := ∀ a o, H a = some o → H' a = some o
theorem Le.refl (H : Hp) : Le H H := fun _ _ h => h
theorem Le.trans {A B C : Hp} (x : Le A B) (y : Le B C) : Le A C := fun a o h => y a o (x a o h)
theorem Le.rd {H H' : Hp} {a : Addr} {u : HO} (e : Le H H') (h : Rd H a u) : Rd H' a u := by
  rcases h with h | ⟨o, h⟩
  · exact Or.inl (e a _ h)
  · exact Or.inr ⟨o, e a _ h⟩
theorem Le.sqL {K : PySem.W.Frag} {H H' : Hp} {a : Addr} {xs : List V} (e : Le H H') (h : SqL K H a xs) : SqL K H' a xs := by
  rcases h with h | h
  · exact Or.inl (e.rd h)
  · exact Or.inr h
theorem Le.sqT {K : PySem.W.Frag} {H H' : Hp} {a : Addr} {xs : List V} (e : Le H H') (h : SqT K H a xs) : SqT K H' a xs := by
  rcases h with h | h
  · exact Or.inl (e.rd h)
  · exact Or.inr h
mutual
theorem dq_le {K : PySem.W.Frag} {H H' : Hp} (e : Le H H') : ∀ {v : V} {d : PyData}, Dq K H v d → Dq K H' v d
  | _, _, .non => .non
  | _, _, .bl b => .bl b
  | _, _, .int i => .int i
  | _, _, .str x => .str x
  | _, _, .lst h k => .lst (e _ _ h) (dqAll_le e k)
  | _, _, .tup h k => .tup (e.sqT h) (dqAll_le e k)
  | _, _, .dic0 h => .dic0 (e _ _ h)
theorem dqAll_le {K : PySem.W.Frag} {H H' : Hp} (e : Le H H') : ∀ {vs : List V} {ds : List PyData}, DqAll K H vs ds → DqAll K H' vs ds
  | _, _, .nil => .nil
  | _, _, .cons h k => .cons (dq_le e h) (dqAll_le e k)
end
theorem dqAll_len {K : PySem.W.Frag} {H : Hp} : ∀ {vs : List V} {ds : List PyData}, DqAll K H vs ds → vs.length = ds.length
  | _, _, .nil => rfl
  | _, _, .cons _ k => by simp [dqAll_len k]
theorem dqAll_at {K : PySem.W.Frag} {H : Hp} : ∀ {vs : List V} {ds : List PyData} {i : Nat} {d : PyData}, DqAll K H vs ds → ds[i]? = some d → ∃ v, vs[i]? = some v ∧ Dq K H v d
  | _, _, _, _, .nil, h => by simp at h
  | _, _, 0, d, .cons h _, e => by simp at e; subst e; exact ⟨_, rfl, h⟩
  | _, _, i + 1, d, .cons _ k, e => by
    obtain ⟨v, e1, e2⟩ := dqAll_at (i := i) (d := d) k (by simpa using e)
    exact ⟨v, by simpa using e1, e2⟩
theorem dqAll_append {K : PySem.W.Frag} {H : Hp} : ∀ {vs ws : List V} {ds es : List PyData}, DqAll K H vs ds → DqAll K H ws es → DqAll K H (vs ++ ws) (ds ++ es)
  | _, _, _, _, .nil, h => h
  | _, _, _, _, .cons h k, q => .cons h (dqAll_append k q)
theorem dqAll_drop {K : PySem.W.Frag} {H : Hp} : ∀ {vs : List V} {ds : List PyData} (n : Nat), DqAll K H vs ds → DqAll K H (vs.drop n) (ds.drop n)
  | _, _, 0, h => h
  | _, _, _ + 1, .nil => .nil
  | _, _, n + 1, .cons _ k => dqAll_drop n k
theorem dqAll_take {K : PySem.W.Frag} {H : Hp} : ∀ {vs : List V} {ds : List PyData} (n : Nat), DqAll K H vs ds → DqAll K H (vs.take n) (ds.take n)
  | _, _, 0, _ => .nil
  | _, _, _ + 1, .nil => .nil
  | _, _, n + 1, .cons h k => .cons h (dqAll_take n k)
theorem dqAll_set {K : PySem.W.Frag} {H : Hp} {v : V} {d : PyData} (q : Dq K H v d) : ∀ {vs : List V} {ds : List PyData} (n : Nat), DqAll K H vs ds → DqAll K H (vs.set n v) (ds.set n d)
  | _, _, _, .nil => .nil
  | _, _, 0, .cons _ k => .cons q k
  | _, _, n + 1, .cons h k => .cons h (dqAll_set q n k)
theorem dqAll_eraseIdx {K : PySem.W.Frag} {H : Hp} : ∀ {vs : List V} {ds : List PyData} (n : Nat), DqAll K H vs ds → DqAll K H (vs.eraseIdx n) (ds.eraseIdx n)
  | _, _, _, .nil => .nil
  | _, _, 0, .cons _ k => k
  | _, _, n + 1, .cons h k => .cons h (dqAll_eraseIdx n k)
theorem dqAll_rep {K : PySem.W.Frag} {H : Hp} {vs : List V} {ds : List PyData} (h : DqAll K H vs ds) : ∀ k : Nat, DqAll K H (List.replicate k vs).flatten (List.replicate k ds).flatten
  | 0 => .nil
  | k + 1 => by
    rw [List.replicate_succ, List.replicate_succ, List.flatten_cons, List.flatten_cons]
    exact dqAll_append h (dqAll_rep h k)
theorem dqAll_reverse {K : PySem.W.Frag} {H : Hp} : ∀ {vs : List V} {ds : List PyData}, DqAll K H vs ds → DqAll K H vs.reverse ds.reverse
  | _, _, .nil => .nil
  | _, _, .cons h k => by
    rw [List.reverse_cons, List.reverse_cons]
    exact dqAll_append (dqAll_reverse k) (.cons h .nil)

/-! ### what represents what -/
section
variable (G : Kx) (T : Addr → Tag) (μ : Nat → Addr) (σ : L2.St) (H : Hp) (n : Nat)
def Rep (tag : Tag) (v : V) : AV → Prop
  | .dat d => Dq G.K (dh T H) v d
  | .own ds => ∃ a vs, v = .ref a ∧ T a = tag ∧ H a = some (.lst vs) ∧ DqAll G.K (dh T H) vs ds
  | .pk i => σ[i]? = some (some v)
  | .obj l => l < n ∧ v = .ref (μ l)
  | .scr ns => ∃ a, v = .ref a ∧ SqL G.K (dh T H) a (ns.map V.int)
/-- within an object: data, objects -/
def RepF (v : V) : AV → Prop
  | .dat d => Dq G.K (dh T H) v d
  | .obj l => l < n ∧ v = .ref (μ l)
  | _ => False
def StkOk : List (V × AV) → Prop
  | [] => True
  | p :: r => Rep G T μ σ H n (.stk r.length) p.1 p.2 ∧ StkOk r
def RepO : Option HO → SO → Prop
  | some (.lst vs), .lst xs => Paired (RepF G T μ H n) vs xs
  | some (.dK kvs), .dic ks => Paired (fun (p : Key × V) (q : Str × AV) => p.1 = Sum.inr q.1 ∧ RepF G T μ H n p.2 q.2) kvs ks
  | some (.ins C dx fs), .ins c as => G.mg c = some (.ref C) ∧ Paired (fun (p : Str × V) (q : Str × AV) => p.1 = q.1 ∧ RepF G T μ H n p.2 q.2) fs as
  | _, _ => False
end
structure R (G : Kx) (fx : Fx) (T : Addr → Tag) (μ : Nat → Addr) (stk : List (V × AV)) (s : Sx) (σ : L2.St) (H : Hp) : Prop where
  stk : StkOk G T μ σ H s.sto.length stk
  len : s.env.length = σ.length
  env : ∀ i av, s.env[i]? = some (some av) → (∀ j, av ≠ .pk j) ∧ ∃ v, σ[i]? = some (some v) ∧ Rep G T μ σ H s.sto.length (.slot i) v av
  sto : ∀ l so, s.sto[l]? = some so → T (μ l) = .obj l ∧ RepO G T μ H s.sto.length (H (μ l)) so
  fr : ∀ a o, fx.fr a = some o → T a = .fr ∧ H a = some o
  B : ∀ a o, fx.B a = some o → T a = .data ∧ H a = some o
  n0 : fx.n0 ≤ s.sto.length
  mu : ∀ l, l < fx.n0 → μ l = fx.mu0 l
def Rel (G : Kx) (fx : Fx) (stk : List (V × AV)) (s : Sx) (σ : L2.St) (H : Hp) : Prop := ∃ T μ, R G fx T μ stk s σ H

/-! ### changes -/
structure Chg (T T' : Addr → Tag) (H H' : Hp) (C : Addr → Prop) : Prop where
  same : ∀ a, ¬ C a → T' a = T a ∧ H' a = H a
  nod : ∀ a, C a → T a = .data → H a = none
/-- no living address with this tag is touched -/
def Live (T : Addr → Tag) (H : Hp) (C : Addr → Prop) (t : Tag) : Prop := ∀ a, C a → T a = t → H a = none
section
variable {G : Kx} {T T' : Addr → Tag} {μ μ' : Nat → Addr} {σ σ' : L2.St} {H H' : Hp} {n n' : Nat} {C : Addr → Prop}
theorem Chg.le (c : Chg T T' H H' C) : Le (dh T H) (dh T' H') := fun a o h => by
  obtain ⟨h1, h2⟩ := dh_some.mp h
  by_cases hc : C a
  · rw [c.nod a hc h1] at h2; cases h2
  · obtain ⟨e1, e2⟩ := c.same a hc
    exact dh_some.mpr ⟨by rw [e1]; exact h1, by rw [e2]; exact h2⟩
theorem Chg.at (c : Chg T T' H H' C) {a : Addr} {o : HO} {t : Tag} (hl : Live T H C t) (h1 : T a = t) (h2 : H a = some o) : T' a = t ∧ H' a = some o := by
  by_cases hc : C a
  · rw [hl a hc h1] at h2; cases h2
  · obtain ⟨e1, e2⟩ := c.same a hc
    exact ⟨by rw [e1]; exact h1, by rw [e2]; exact h2⟩
theorem RepF.chg (c : Chg T T' H H' C) (hn : n ≤ n') (hm : ∀ l, l < n → μ' l = μ l) {v : V} {av : AV} (h : RepF G T μ H n v av) : RepF G T' μ' H' n' v av := by
  cases av with
  | dat d => exact dq_le c.le h
  | obj l => exact ⟨Nat.lt_of_lt_of_le h.1 hn, by rw [hm l h.1]; exact h.2⟩
  | own _ => exact h
  | pk _ => exact h
  | scr _ => exact h
theorem Rep.chg (c : Chg T T' H H' C) (hn : n ≤ n') (hm : ∀ l, l < n → μ' l = μ l) (hs : ∀ (i : Nat) (v : V), σ[i]? = some (some v) → σ'[i]? = some (some v)) {t : Tag} (hl : Live T H C t) {v : V} {av : AV} (h : Rep G T μ σ H n t v av) : Rep G T' μ' σ' H' n' t v av := by
  cases av with
  | dat d => exact dq_le c.le h
  | obj l => exact ⟨Nat.lt_of_lt_of_le h.1 hn, by rw [hm l h.1]; exact h.2⟩
  | own ds =>
    obtain ⟨a, vs, e, h1, h2, h3⟩ := h
    obtain ⟨q1, q2⟩ := c.at hl h1 h2
    exact ⟨a, vs, e, q1, q2, dqAll_le c.le h3⟩
  | pk i => exact hs i v h
  | scr ns => obtain ⟨a, e, q⟩ := h; exact ⟨a, e, c.le.sqL q⟩
theorem StkOk.chg (c : Chg T T' H H' C) (hn : n ≤ n') (hm : ∀ l, l < n → μ' l = μ l) (hs : ∀ (i : Nat) (v : V), σ[i]? = some (some v) → σ'[i]? = some (some v)) : ∀ {stk : List (V × AV)}, (∀ k, k < stk.length → Live T H C (.stk k)) → StkOk G T μ σ H n stk → StkOk G T' μ' σ' H' n' stk
  | [], _, _ => True.intro
  | p :: r, hl, h => ⟨Rep.chg c hn hm hs (hl r.length (by simp)) h.1, StkOk.chg c hn hm hs (fun k hk => hl k (by simp; omega)) h.2⟩
theorem Paired.imp {α β : Type} {F F' : α → β → Prop} {l : List α} {k : List β} (h : Paired F l k) (f : ∀ a b, F a b → F' a b) : Paired F' l k := Paired.mapP h f
theorem RepO.chg (c : Chg T T' H H' C) (hn : n ≤ n') (hm : ∀ l, l < n → μ' l = μ l) {o : Option HO} {so : SO} (h : RepO G T μ H n o so) : RepO G T' μ' H' n' o so := by
  cases o with
  | none => exact h
  | some o =>
    cases o <;> cases so <;> first
      | exact h
      | exact Paired.imp h fun a b q => RepF.chg c hn hm q
      | exact Paired.imp h fun a b q => ⟨q.1, RepF.chg c hn hm q.2⟩
      | exact ⟨h.1, Paired.imp h.2 fun a b q => ⟨q.1, RepF.chg c hn hm q.2⟩⟩
theorem RepO.some {o : Option HO} {so : SO} (h : RepO G T μ H n o so) : ∃ u, o = some u := by
  cases o with
  | none => exact h.elim
  | some u => exact ⟨u, rfl⟩
end
section
variable {X : Cx} {pins : List (Addr × Obj)} {σ : L2.St} {H : Hp} {s : Shared}
mutual
theorem Dq.reads (I : Inv X pins σ H s) : ∀ (d : PyData) (v : V) (u : Value), Dq X.K H v d → RelV v u → ∃ as, Reads s.heap u d as
  | .none, _, _, h, r => by
    cases h
    cases r
    exact ⟨_, Reads.none⟩
  | .bool b, _, _, h, r => by
    cases h
    cases r
    exact ⟨_, Reads.bool b⟩
  | .int i, _, _, h, r => by
    cases h
    obtain ⟨t, rfl⟩ := r
    exact ⟨_, Reads.int i t⟩
  | .str x, _, _, h, r => by
    cases h
    obtain ⟨t, rfl⟩ := r
    exact ⟨_, Reads.str x t⟩
  | .list ds, _, _, h, r => by
    cases h with
    | lst hs ha =>
      cases r
      obtain ⟨its, rv, ⟨o, n, ho, hc, _, hd⟩, _⟩ := I.list (SqL.of hs)
      obtain ⟨as, hr⟩ := Dq.readsAll I ds _ its ha rv
      exact ⟨_, Reads.list ho hc hd hr⟩
  | .tuple ds, _, _, h, r => by
    cases h with
    | tup hs ha =>
      cases r
      obtain ⟨its, rv, ⟨o, ho, hc, n, hd⟩, _⟩ := I.tuple hs
      obtain ⟨as, hr⟩ := Dq.readsAll I ds _ its ha rv
      exact ⟨_, Reads.tuple ho hc hd hr⟩
  | .dict _, _, _, h, r => by
    cases h with
    | dic0 h0 =>
      cases r
      obtain ⟨_, _, vs, rv, o, es, ep, ho, hx, hd, he⟩ := I.hok _ _ h0
      cases rv
      have e0 : es.toList = [] := List.eq_nil_of_length_eq_zero he.2.1.length
      exact ⟨_, Reads.dict (kvs := []) (as := []) (bs := []) ho hx.1 hd (by rw [e0]; exact ReadsAll.nil) (by rw [e0]; exact ReadsAll.nil)⟩
theorem Dq.readsAll (I : Inv X pins σ H s) : ∀ (ds : List PyData) (vs : List V) (us : List Value), DqAll X.K H vs ds → Vals vs us → ∃ as, ReadsAll s.heap us ds as
  | [], _, _, h, r => by
    cases h
    cases r
    exact ⟨_, ReadsAll.nil⟩
  | d :: ds, _, _, h, r => by
    cases h with
    | cons h1 h2 =>
      cases r with
      | cons r1 r2 =>
        obtain ⟨as, q1⟩ := Dq.reads I d _ _ h1 r1
        obtain ⟨bs, q2⟩ := Dq.readsAll I ds _ _ h2 r2
        exact ⟨_, ReadsAll.cons q1 q2⟩
end
end
end Fe

/-! Fe2: steps of the relation; the judgements. -/
namespace Fe
open PySem PySem.Spec PyProof.Rows L2

section
variable {G : Kx} {fx : Fx} {T T' : Addr → Tag} {μ μ' : Nat → Addr} {stk : List (V × AV)} {s : Sx} {σ σ' : L2.St} {H H' : Hp} {C : Addr → Prop} {v : V} {av : AV} {t : Tag} {n : Nat}

theorem Live.none {p : Addr} (hp : H p = Option.none) : Live T H (fun a => a = p) t := fun a e _ => by rw [e]; exact hp
theorem Live.tag {p : Addr} (h : T p ≠ t) : Live T H (fun a => a = p) t := fun a e z => by rw [e] at z; exact (h z).elim
/-- one address: its tag and its object -/
def Tset (T : Addr → Tag) (p : Addr) (t : Tag) : Addr → Tag := fun a => if a = p then t else T a
theorem Tset_same {p : Addr} : Tset T p t p = t := if_pos rfl
theorem Tset_ne {p a : Addr} (h : a ≠ p) : Tset T p t a = T a := if_neg h
theorem chg_new {p : Addr} {o : HO} (hp : H p = Option.none) : Chg T (Tset T p t) H (upd H p o) (fun a => a = p) :=
  ⟨fun a ha => ⟨Tset_ne ha, upd_ne ha⟩, fun a e _ => by rw [e]; exact hp⟩
theorem chg_upd {p : Addr} {o : HO} (hp : T p ≠ .data) : Chg T T H (upd H p o) (fun a => a = p) :=
  ⟨fun a ha => ⟨rfl, upd_ne ha⟩, fun a e z => by rw [e] at z; exact (hp z).elim⟩
theorem chg_tag {p : Addr} (hp : T p ≠ .data) : Chg T (Tset T p t) H H (fun a => a = p) :=
  ⟨fun a ha => ⟨Tset_ne ha, rfl⟩, fun a e z => by rw [e] at z; exact (hp z).elim⟩

theorem Rep.sig (hv : ∀ j, av ≠ .pk j) (h : Rep G T μ σ H n t v av) : Rep G T μ σ' H n t v av := by
  cases av with
  | pk i => exact (hv i rfl).elim
  | _ => exact h

/-- all components under a change -/
theorem R.env_chg (h : R G fx T μ stk s σ H) (c : Chg T T' H H' C) {n' : Nat} (hn : s.sto.length ≤ n') (hm : ∀ l, l < s.sto.length → μ' l = μ l) {i : Nat} (hl : Live T H C (.slot i)) (he : s.env[i]? = some (some av)) :
    (∀ j, av ≠ .pk j) ∧ ∃ v, σ[i]? = some (some v) ∧ Rep G T' μ' σ H' n' (.slot i) v av := by
  obtain ⟨h1, v, h2, h3⟩ := h.env i av he
  exact ⟨h1, v, h2, h3.chg c hn hm (fun _ _ q => q) hl⟩
theorem R.sto_chg (h : R G fx T μ stk s σ H) (c : Chg T T' H H' C) {n' : Nat} (hn : s.sto.length ≤ n') (hm : ∀ l, l < s.sto.length → μ' l = μ l) {l : Nat} {so : SO} (hl : Live T H C (.obj l)) (he : s.sto[l]? = some so) :
    T' (μ' l) = .obj l ∧ RepO G T' μ' H' n' (H' (μ' l)) so := by
  obtain ⟨h1, h2⟩ := h.sto l so he
  have hlt : l < s.sto.length := (List.getElem?_eq_some_iff.mp he).1
  obtain ⟨u, hu⟩ := h2.some
  obtain ⟨q1, q2⟩ := c.at hl h1 hu
  rw [hm l hlt]
  refine ⟨q1, ?_⟩
  rw [q2, ← hu]
  exact h2.chg c hn hm
theorem R.fr_chg (h : R G fx T μ stk s σ H) (c : Chg T T' H H' C) (hl : Live T H C .fr) : ∀ a o, fx.fr a = some o → T' a = .fr ∧ H' a = some o := fun a o e => by
  obtain ⟨h1, h2⟩ := h.fr a o e
  exact c.at hl h1 h2
theorem R.B_chg (h : R G fx T μ stk s σ H) (c : Chg T T' H H' C) : ∀ a o, fx.B a = some o → T' a = .data ∧ H' a = some o := fun a o e => dh_some.mp (c.le a o (dh_some.mpr (h.B a o e)))
/-- a change that touches nothing that lives -/
theorem R.chg (h : R G fx T μ stk s σ H) (c : Chg T T' H H' C) (h1 : ∀ k, k < stk.length → Live T H C (.stk k)) (h2 : ∀ i, Live T H C (.slot i)) (h3 : ∀ l, Live T H C (.obj l)) (h4 : Live T H C .fr) : R G fx T' μ stk s σ H' :=
  ⟨h.stk.chg c (Nat.le_refl _) (fun _ _ => rfl) (fun _ _ q => q) h1, h.len, fun i av e => h.env_chg c (Nat.le_refl _) (fun _ _ => rfl) (h2 i) e, fun l so e => h.sto_chg c (Nat.le_refl _) (fun _ _ => rfl) (h3 l) e, h.fr_chg c h4, h.B_chg c, h.n0, h.mu⟩
theorem R.push (h : R G fx T μ stk s σ H) (q : Rep G T μ σ H s.sto.length (.stk stk.length) v av) : R G fx T μ ((v, av) :: stk) s σ H := ⟨⟨q, h.stk⟩, h.len, h.env, h.sto, h.fr, h.B, h.n0, h.mu⟩
theorem R.pop {p : V × AV} (h : R G fx T μ (p :: stk) s σ H) : R G fx T μ stk s σ H := ⟨h.stk.2, h.len, h.env, h.sto, h.fr, h.B, h.n0, h.mu⟩
theorem Rel.pop {p : V × AV} (h : Rel G fx (p :: stk) s σ H) : Rel G fx stk s σ H := by
  obtain ⟨T, μ, h⟩ := h
  exact ⟨T, μ, h.pop⟩
/-- a value that needs no object -/
theorem Rel.scal {d : PyData} (h : Rel G fx stk s σ H) (q : ∀ Hp, Dq G.K Hp v d) : Rel G fx ((v, .dat d) :: stk) s σ H := by
  obtain ⟨T, μ, h⟩ := h
  exact ⟨T, μ, h.push (q _)⟩
/-- a new object laid: stack, env, store, frame stay -/
theorem R.fresh (h : R G fx T μ stk s σ H) {p : Addr} {o : HO} (hp : H p = none) (t : Tag) : R G fx (Tset T p t) μ stk s σ (upd H p o) :=
  h.chg (chg_new hp) (fun _ _ => Live.none hp) (fun _ => Live.none hp) (fun _ => Live.none hp) (Live.none hp)
theorem Rel.newOwn (h : R G fx T μ stk s σ H) {p : Addr} {vs : List V} {ds : List PyData} (hp : H p = none) (q : DqAll G.K (dh T H) vs ds) : Rel G fx ((.ref p, .own ds) :: stk) s σ (upd H p (.lst vs)) :=
  ⟨_, _, (h.fresh hp (.stk stk.length)).push ⟨p, vs, rfl, Tset_same, upd_same, dqAll_le (chg_new hp).le q⟩⟩
theorem Rel.newTup (h : R G fx T μ stk s σ H) {p : Addr} {vs : List V} {ds : List PyData} (hp : H p = none) (q : DqAll G.K (dh T H) vs ds) : Rel G fx ((.ref p, .dat (.tuple ds)) :: stk) s σ (upd H p (.tup vs)) :=
  ⟨_, _, (h.fresh hp .data).push (Dq.tup (SqT.of (dh_some.mpr ⟨Tset_same, upd_same⟩)) (dqAll_le (chg_new hp).le q))⟩
theorem Rel.newDic0 (h : R G fx T μ stk s σ H) {p : Addr} (hp : H p = none) : Rel G fx ((.ref p, .dat (.dict [])) :: stk) s σ (upd H p (.dK [])) :=
  ⟨_, _, (h.fresh hp .data).push (Dq.dic0 (dh_some.mpr ⟨Tset_same, upd_same⟩))⟩

/-! ### freezing -/
def frzAt (i : Nat) (s : Sx) : Option (Option AV) → Option (AV × Sx)
  | some (some (.own ds)) => some (.dat (.list ds), { s with env := s.env.set i (some (.dat (.list ds))) })
  | some (some (.dat d)) => some (.dat d, s)
  | some (some (.obj l)) => some (.obj l, s)
  | some (some (.scr l)) => some (.scr l, s)
  | _ => none
def frz : AV → Sx → Option (AV × Sx)
  | .dat d, s => some (.dat d, s)
  | .obj l, s => some (.obj l, s)
  | .scr ns, s => some (.scr ns, s)
  | .own ds, s => some (.dat (.list ds), s)
  | .pk i, s => frzAt i s s.env[i]?
/-- a slot's list laid among the data -/
theorem Rel.frzSlot {i : Nat} {ds : List PyData} (h : Rel G fx stk s σ H) (he : s.env[i]? = some (some (.own ds))) (hv : σ[i]? = some (some v)) : Rel G fx ((v, .dat (.list ds)) :: stk) { s with env := s.env.set i (some (.dat (.list ds))) } σ H := by
  obtain ⟨T, μ, h⟩ := h
  obtain ⟨_, v', e', a, vs, rfl, hT, hH, hd⟩ := h.env i _ he
  rw [hv] at e'
  cases e'
  have nd : T a ≠ .data := by rw [hT]; exact fun z => nomatch z
  have c : Chg T (Tset T a .data) H H (fun b => b = a) := chg_tag nd
  have hi : i < s.env.length := (List.getElem?_eq_some_iff.mp he).1
  have q : Dq G.K (dh (Tset T a .data) H) (.ref a) (.list ds) := Dq.lst (dh_some.mpr ⟨Tset_same, hH⟩) (dqAll_le c.le hd)
  have lv : ∀ t, t ≠ .slot i → Live T H (fun b => b = a) t := fun t ht => Live.tag (by rw [hT]; exact fun z => ht z.symm)
  refine ⟨Tset T a .data, μ, ⟨⟨q, h.stk.chg c (Nat.le_refl _) (fun _ _ => rfl) (fun _ _ q => q) fun k _ => lv _ (fun z => nomatch z)⟩, ?_, fun j av e => ?_, fun l so e => h.sto_chg c (Nat.le_refl _) (fun _ _ => rfl) (lv _ (fun z => nomatch z)) e, h.fr_chg c (lv _ (fun z => nomatch z)), h.B_chg c, h.n0, h.mu⟩⟩
  · show (s.env.set i _).length = σ.length
    rw [List.length_set]; exact h.len
  · by_cases hj : i = j
    · subst hj
      have e2 : (s.env.set i (some (.dat (.list ds))))[i]? = some (some av) := e
      rw [List.getElem?_set_self hi] at e2
      cases e2
      exact ⟨fun _ z => (nomatch z), _, hv, q⟩
    · have e2 : (s.env.set i (some (.dat (.list ds))))[j]? = some (some av) := e
      rw [List.getElem?_set_ne hj] at e2
      exact h.env_chg c (Nat.le_refl _) (fun _ _ => rfl) (lv _ (fun z => hj (by injection z with z; exact z.symm))) e2
theorem Rel.frzTop {ds : List PyData} (h : Rel G fx ((v, .own ds) :: stk) s σ H) : Rel G fx ((v, .dat (.list ds)) :: stk) s σ H := by
  obtain ⟨T, μ, h⟩ := h
  obtain ⟨a, vs, rfl, hT, hH, hd⟩ := h.stk.1
  have nd : T a ≠ .data := by rw [hT]; exact fun z => nomatch z
  have c : Chg T (Tset T a .data) H H (fun b => b = a) := chg_tag nd
  have lv : ∀ t, t ≠ .stk stk.length → Live T H (fun b => b = a) t := fun t ht => Live.tag (by rw [hT]; exact fun z => ht z.symm)
  exact ⟨_, _, (h.pop.chg c (fun k hk => lv _ (fun z => by injection z with z; omega)) (fun _ => lv _ (fun z => nomatch z)) (fun _ => lv _ (fun z => nomatch z)) (lv _ (fun z => nomatch z))).push (Dq.lst (dh_some.mpr ⟨Tset_same, hH⟩) (dqAll_le c.le hd))⟩
theorem Rel.pk {i : Nat} (h : Rel G fx ((v, .pk i) :: stk) s σ H) : σ[i]? = some (some v) := by
  obtain ⟨T, μ, h⟩ := h
  exact h.stk.1
theorem Rel.frz {s' : Sx} {bv : AV} (h : Rel G fx ((v, av) :: stk) s σ H) (e : frz av s = some (bv, s')) : Rel G fx ((v, bv) :: stk) s' σ H := by
  cases av with
  | dat d => cases e; exact h
  | obj l => cases e; exact h
  | scr l => cases e; exact h
  | own ds => cases e; exact h.frzTop
  | pk i =>
    have hv := h.pk
    have e : frzAt i s s.env[i]? = some (bv, s') := e
    have same : ∀ av, s.env[i]? = some (some av) → (∀ ds, av ≠ .own ds) → Rel G fx ((v, av) :: stk) s σ H := fun av he hne => by
      obtain ⟨T, μ, h⟩ := h
      obtain ⟨_, v', e', q⟩ := h.env i _ he
      rw [hv] at e'; cases e'
      refine ⟨T, μ, h.pop.push ?_⟩
      cases av with
      | own ds => exact (hne ds rfl).elim
      | _ => exact q
    match he : s.env[i]? with
    | some (some (.own ds)) => rw [he] at e; cases e; exact h.pop.frzSlot he hv
    | some (some (.dat d)) => rw [he] at e; cases e; exact same _ he fun _ z => nomatch z
    | some (some (.obj d)) => rw [he] at e; cases e; exact same _ he fun _ z => nomatch z
    | some (some (.scr d)) => rw [he] at e; cases e; exact same _ he fun _ z => nomatch z
    | some (some (.pk d)) => rw [he] at e; cases e
    | some none => rw [he] at e; cases e
    | none => rw [he] at e; cases e

/-! ### a slot's own list changed; a slot stored -/
theorem Rel.updSlot {i : Nat} {ds ds' : List PyData} {a : Addr} {vs' : List V} (h : R G fx T μ stk s σ H) (he : s.env[i]? = some (some (.own ds))) (hv : σ[i]? = some (some (.ref a))) (q : DqAll G.K (dh T H) vs' ds') :
    Rel G fx stk { s with env := s.env.set i (some (.own ds')) } σ (upd H a (.lst vs')) := by
  obtain ⟨_, v', e', a', vs, rfl, hT, hH, hd⟩ := h.env i _ he
  rw [hv] at e'
  cases e'
  have nd : T a ≠ .data := by rw [hT]; exact fun z => nomatch z
  have c : Chg T T H (upd H a (.lst vs')) (fun b => b = a) := chg_upd nd
  have hi : i < s.env.length := (List.getElem?_eq_some_iff.mp he).1
  have lv : ∀ t, t ≠ .slot i → Live T H (fun b => b = a) t := fun t ht => Live.tag (by rw [hT]; exact fun z => ht z.symm)
  refine ⟨T, μ, ⟨h.stk.chg c (Nat.le_refl _) (fun _ _ => rfl) (fun _ _ q => q) fun k _ => lv _ (fun z => nomatch z), ?_, fun j av e => ?_, fun l so e => h.sto_chg c (Nat.le_refl _) (fun _ _ => rfl) (lv _ (fun z => nomatch z)) e, h.fr_chg c (lv _ (fun z => nomatch z)), h.B_chg c, h.n0, h.mu⟩⟩
  · show (s.env.set i _).length = σ.length
    rw [List.length_set]; exact h.len
  · by_cases hj : i = j
    · subst hj
      have e2 : (s.env.set i (some (.own ds')))[i]? = some (some av) := e
      rw [List.getElem?_set_self hi] at e2
      cases e2
      exact ⟨fun _ z => (nomatch z), _, hv, a, vs', rfl, hT, upd_same, dqAll_le c.le q⟩
    · have e2 : (s.env.set i (some (.own ds')))[j]? = some (some av) := e
      rw [List.getElem?_set_ne hj] at e2
      exact h.env_chg c (Nat.le_refl _) (fun _ _ => rfl) (lv _ (fun z => hj (by injection z with z; exact z.symm))) e2

def NoPk (stk : List (V × AV)) : Prop := ∀ p ∈ stk, ∀ i, p.2 ≠ .pk i
theorem NoPk.tail {p : V × AV} (h : NoPk (p :: stk)) : NoPk stk := fun q hq => h q (List.mem_cons_of_mem _ hq)
theorem NoPk.nil : NoPk [] := fun _ h => nomatch h
theorem NoPk.cons {p : V × AV} (hp : ∀ i, p.2 ≠ .pk i) (h : NoPk stk) : NoPk (p :: stk) := fun q hq => by
  rcases List.mem_cons.mp hq with e | hq
  · rw [e]; exact hp
  · exact h q hq
theorem StkOk.sig : ∀ {stk : List (V × AV)}, NoPk stk → StkOk G T μ σ H n stk → StkOk G T μ σ' H n stk
  | [], _, _ => True.intro
  | p :: r, hn, h => ⟨Rep.sig (hn p (List.mem_cons_self ..)) h.1, StkOk.sig hn.tail h.2⟩
/-- a slot forgotten -/
theorem R.forget (i : Nat) (h : R G fx T μ stk s σ H) : R G fx T μ stk { s with env := s.env.set i none } σ H := by
  refine ⟨h.stk, by show (s.env.set i _).length = _; rw [List.length_set]; exact h.len, fun j av e => ?_, h.sto, h.fr, h.B, h.n0, h.mu⟩
  have e2 : (s.env.set i none)[j]? = some (some av) := e
  by_cases hj : i = j
  · subst hj
    by_cases hi : i < s.env.length
    · rw [List.getElem?_set_self hi] at e2; cases e2
    · rw [List.getElem?_eq_none (by rw [List.length_set]; omega)] at e2; cases e2
  · rw [List.getElem?_set_ne hj] at e2
    exact h.env j av e2
/-- σ where the abstract slot says nothing may be anything -/
theorem R.sigma (hn : NoPk stk) (h : R G fx T μ stk s σ H) (hl : σ'.length = σ.length) (hs : ∀ (i : Nat) av, s.env[i]? = some (some av) → σ'[i]? = σ[i]?) : R G fx T μ stk s σ' H :=
  ⟨h.stk.sig hn, h.len.trans hl.symm, fun i av e => by
    obtain ⟨h1, v, h2, h3⟩ := h.env i av e
    exact ⟨h1, v, by rw [hs i av e]; exact h2, h3.sig h1⟩, h.sto, h.fr, h.B, h.n0, h.mu⟩
theorem Rel.setSlot {i : Nat} (hi : i < σ.length) (hn : NoPk stk) (hp : ∀ j, av ≠ .pk j) (h : Rel G fx ((v, av) :: stk) s σ H) : Rel G fx stk { s with env := s.env.set i (some av) } (σ.set i (some v)) H := by
  obtain ⟨T, μ, h⟩ := h
  have hi' : i < s.env.length := by rw [h.len]; exact hi
  -- the slot forgotten, the new value there
  have h0 : R G fx T μ ((v, av) :: stk) { s with env := s.env.set i none } (σ.set i (some v)) H := by
    refine (h.forget i).sigma (NoPk.cons hp hn) (List.length_set ..) fun j bv e => ?_
    have e2 : (s.env.set i none)[j]? = some (some bv) := e
    by_cases hj : i = j
    · subst hj
      rw [List.getElem?_set_self hi'] at e2; cases e2
    · rw [List.getElem?_set_ne hj]
  have key : ∀ (T' : Addr → Tag), R G fx T' μ stk { s with env := s.env.set i none } (σ.set i (some v)) H → Rep G T' μ (σ.set i (some v)) H s.sto.length (.slot i) v av → Rel G fx stk { s with env := s.env.set i (some av) } (σ.set i (some v)) H := by
    intro T' h' q
    refine ⟨T', μ, ⟨h'.stk, by show (s.env.set i _).length = _; rw [List.length_set, List.length_set]; exact h.len, fun j bv e => ?_, h'.sto, h'.fr, h'.B, h'.n0, h'.mu⟩⟩
    have e2 : (s.env.set i (some av))[j]? = some (some bv) := e
    by_cases hj : i = j
    · subst hj
      rw [List.getElem?_set_self hi'] at e2
      cases e2
      exact ⟨hp, v, List.getElem?_set_self hi, q⟩
    · rw [List.getElem?_set_ne hj] at e2
      refine h'.env j bv ?_
      show (s.env.set i none)[j]? = _
      rw [List.getElem?_set_ne hj]; exact e2
  cases av with
  | dat d => exact key T h0.pop h0.stk.1
  | obj l => exact key T h0.pop h0.stk.1
  | scr l => exact key T h0.pop h0.stk.1
  | pk j => exact (hp j rfl).elim
  | own ds =>
    obtain ⟨a, vs, rfl, hT, hH, hd⟩ := h0.stk.1
    have nd : T a ≠ .data := by rw [hT]; exact fun z => nomatch z
    have c : Chg T (Tset T a (.slot i)) H H (fun b => b = a) := chg_tag nd
    have lv : ∀ t, t ≠ .stk stk.length → Live T H (fun b => b = a) t := fun t ht => Live.tag (by rw [hT]; exact fun z => ht z.symm)
    exact key _ (h0.pop.chg c (fun k hk => lv _ (fun z => by injection z with z; omega)) (fun _ => lv _ (fun z => nomatch z)) (fun _ => lv _ (fun z => nomatch z)) (lv _ (fun z => nomatch z))) ⟨a, vs, rfl, Tset_same, hH, dqAll_le c.le hd⟩
/-- a slot's own list taken to the stack -/
theorem Rel.takeSlot {i : Nat} {ds : List PyData} (h : Rel G fx ((v, .pk i) :: stk) s σ H) (he : s.env[i]? = some (some (.own ds))) : Rel G fx ((v, .own ds) :: stk) { s with env := s.env.set i none } σ H := by
  have hv := h.pk
  obtain ⟨T, μ, h⟩ := h
  obtain ⟨_, v', e', a, vs, rfl, hT, hH, hd⟩ := h.env i _ he
  rw [hv] at e'
  cases e'
  have nd : T a ≠ .data := by rw [hT]; exact fun z => nomatch z
  have c : Chg T (Tset T a (.stk stk.length)) H H (fun b => b = a) := chg_tag nd
  have lv : ∀ t, t ≠ .slot i → Live T H (fun b => b = a) t := fun t ht => Live.tag (by rw [hT]; exact fun z => ht z.symm)
  have h0 := h.pop.forget i
  have hi : i < s.env.length := (List.getElem?_eq_some_iff.mp he).1
  refine ⟨Tset T a (.stk stk.length), μ, ⟨⟨⟨a, vs, rfl, Tset_same, hH, dqAll_le c.le hd⟩, h0.stk.chg c (Nat.le_refl _) (fun _ _ => rfl) (fun _ _ q => q) fun k _ => lv _ (fun z => nomatch z)⟩, h0.len, fun j av e => ?_, fun l so e => h0.sto_chg c (Nat.le_refl _) (fun _ _ => rfl) (lv _ (fun z => nomatch z)) e, h0.fr_chg c (lv _ (fun z => nomatch z)), h0.B_chg c, h0.n0, h0.mu⟩⟩
  by_cases hj : i = j
  · subst hj
    have e2 : (s.env.set i none)[i]? = some (some av) := e
    rw [List.getElem?_set_self hi] at e2; cases e2
  · exact h0.env_chg c (Nat.le_refl _) (fun _ _ => rfl) (lv _ (fun z => hj (by injection z with z; exact z.symm))) e
end
end Fe

/-! Fe3: what lies below is hidden, and comes back. -/
namespace Fe
open PySem PySem.Spec PyProof.Rows L2

def hidT (k : Nat) (b : Bool) : Tag → Bool
  | .stk m => decide (m < k)
  | .slot _ => b
  | _ => false
def T1 (k : Nat) (b : Bool) (T : Addr → Tag) : Addr → Tag := fun a => match T a with
  | .stk m => if m < k then .fr else .stk (m - k)
  | .slot i => if b = true then .fr else .slot i
  | t => t
def T3 (k : Nat) (b : Bool) (T U : Addr → Tag) (H : Hp) : Addr → Tag := fun a => if (hidT k b (T a) && (H a).isSome) = true then T a else match U a with
  | .stk m => .stk (m + k)
  | .fr => if T a = .fr then .fr else .data
  | .slot i => if b = true then .data else .slot i
  | t => t
def fxOf (fx : Fx) (k : Nat) (b : Bool) (T : Addr → Tag) (μ : Nat → Addr) (n : Nat) (H : Hp) : Fx := ⟨fun a => if hidT k b (T a) = true then H a else fx.fr a, dh T H, n, μ⟩

def Mono (P : Hp → Prop) : Prop := ∀ A B, Le A B → P A → P B
def RelP (G : Kx) (fx : Fx) (stk : List (V × AV)) (s : Sx) (σ : L2.St) (H : Hp) (P : Hp → Prop) : Prop := ∃ T μ, R G fx T μ stk s σ H ∧ P (dh T H)
theorem mono_true : Mono fun _ => True := fun _ _ _ h => h
section
variable {G : Kx} {fx : Fx} {T U : Addr → Tag} {μ ν : Nat → Addr} {s1 s2 : List (V × AV)} {s s' : Sx} {σ σ' : L2.St} {H H' : Hp} {k n n' : Nat} {b : Bool}
theorem T1_data {a : Addr} : T1 k b T a = .data ↔ T a = .data := by
  unfold T1
  cases h : T a with
  | stk m => simp only []; split <;> simp
  | slot i => simp only []; split <;> simp
  | _ => simp
theorem dh_T1 : dh (T1 k b T) H = dh T H := by
  funext a
  unfold dh
  by_cases h : T a = .data
  · rw [if_pos h, if_pos (T1_data.mpr h)]
  · rw [if_neg h, if_neg (fun z => h (T1_data.mp z))]
theorem T1_stk {a : Addr} {m : Nat} (h : T a = .stk (m + k)) : T1 k b T a = .stk m := by
  unfold T1
  rw [h]
  show (if m + k < k then Tag.fr else .stk (m + k - k)) = _
  rw [if_neg (by omega), Nat.add_sub_cancel]
theorem stk_hide : ∀ {s1 : List (V × AV)}, s2.length = k → StkOk G T μ σ H n (s1 ++ s2) → StkOk G (T1 k b T) μ σ H n s1
  | [], _, _ => True.intro
  | (v, av) :: r, e, h => by
    refine ⟨?_, stk_hide e h.2⟩
    have q : Rep G T μ σ H n (.stk (r ++ s2).length) v av := h.1
    rw [List.length_append, e] at q
    cases av with
    | dat d => show Dq G.K (dh (T1 k b T) H) v d; rw [dh_T1]; exact q
    | obj l => exact q
    | pk i => exact q
    | scr ns => obtain ⟨a, e, q⟩ := q; exact ⟨a, e, by rw [dh_T1]; exact q⟩
    | own ds =>
      obtain ⟨a, vs, e1, e2, e3, e4⟩ := q
      exact ⟨a, vs, e1, T1_stk e2, e3, by rw [dh_T1]; exact e4⟩
theorem stk_low : ∀ {s1 : List (V × AV)}, StkOk G T μ σ H n (s1 ++ s2) → StkOk G T μ σ H n s2
  | [], h => h
  | _ :: _, h => stk_low (s1 := _) h.2
theorem repF_T1 {v : V} {av : AV} (h : RepF G T μ H n v av) : RepF G (T1 k b T) μ H n v av := by
  cases av with
  | dat d => show Dq G.K (dh (T1 k b T) H) v d; rw [dh_T1]; exact h
  | _ => exact h
theorem repO_T1 {o : Option HO} {so : SO} (h : RepO G T μ H n o so) : RepO G (T1 k b T) μ H n o so := by
  cases o with
  | none => exact h
  | some o =>
    cases o <;> cases so <;> first
      | exact h
      | exact Paired.imp h fun a b q => repF_T1 q
      | exact Paired.imp h fun a b q => ⟨q.1, repF_T1 q.2⟩
      | exact ⟨h.1, Paired.imp h.2 fun a b q => ⟨q.1, repF_T1 q.2⟩⟩
theorem fr_hide (h : R G fx T μ s1 s σ H) : ∀ a o, (fxOf fx k b T μ n H).fr a = some o → T1 k b T a = .fr ∧ H a = some o := fun a o e => by
  have e' : (if hidT k b (T a) = true then H a else fx.fr a) = some o := e
  split at e'
  · rename_i q
    refine ⟨?_, e'⟩
    unfold T1
    cases hT : T a with
    | stk m =>
      rw [hT] at q
      show (if m < k then Tag.fr else .stk (m - k)) = _
      rw [if_pos (of_decide_eq_true q)]
    | slot i =>
      rw [hT] at q
      show (if b = true then Tag.fr else .slot i) = _
      rw [if_pos (show b = true from q)]
    | _ => exact absurd (show false = true by rw [hT] at q; exact q) Bool.false_ne_true
  · obtain ⟨h1, h2⟩ := h.fr a o e'
    exact ⟨by unfold T1; rw [h1], h2⟩

/-! the way back -/
theorem T3_vis (hf : ∀ a o, (fxOf fx k b T μ n H).fr a = some o → U a = .fr ∧ H' a = some o) {a : Addr} (h : U a ≠ .fr) : ¬ (hidT k b (T a) && (H a).isSome) = true := fun z => by
  rw [Bool.and_eq_true] at z
  obtain ⟨o, e⟩ := Option.isSome_iff_exists.mp z.2
  have e' : (fxOf fx k b T μ n H).fr a = some o := by
    show (if hidT k b (T a) = true then H a else fx.fr a) = some o
    rw [if_pos z.1]; exact e
  exact h (hf a o e').1
theorem T3_hid {a : Addr} {o : HO} (h1 : hidT k b (T a) = true) (h2 : H a = some o) : T3 k b T U H a = T a := by
  unfold T3
  rw [if_pos (by rw [h1, h2]; rfl)]
section
variable (hf : ∀ a o, (fxOf fx k b T μ n H).fr a = some o → U a = .fr ∧ H' a = some o)
include hf
theorem T3_le : Le (dh U H') (dh (T3 k b T U H) H') := fun a o e => by
  obtain ⟨h1, h2⟩ := dh_some.mp e
  refine dh_some.mpr ⟨?_, h2⟩
  unfold T3
  rw [if_neg (T3_vis hf (by rw [h1]; exact fun z => nomatch z)), h1]
theorem T3_stk {a : Addr} {m : Nat} (h : U a = .stk m) : T3 k b T U H a = .stk (m + k) := by
  unfold T3
  rw [if_neg (T3_vis hf (by rw [h]; exact fun z => nomatch z)), h]
theorem T3_obj {a : Addr} {m : Nat} (h : U a = .obj m) : T3 k b T U H a = .obj m := by
  unfold T3
  rw [if_neg (T3_vis hf (by rw [h]; exact fun z => nomatch z)), h]
theorem T3_slot {a : Addr} {m : Nat} (hb : b = false) (h : U a = .slot m) : T3 k b T U H a = .slot m := by
  unfold T3
  rw [if_neg (T3_vis hf (by rw [h]; exact fun z => nomatch z)), h]
  show (if b = true then Tag.data else .slot m) = _
  rw [hb]; rfl
theorem hid_at {a : Addr} {o : HO} (h1 : hidT k b (T a) = true) (h2 : H a = some o) : T3 k b T U H a = T a ∧ H' a = some o := by
  refine ⟨T3_hid h1 h2, (hf a o ?_).2⟩
  show (if hidT k b (T a) = true then H a else fx.fr a) = some o
  rw [if_pos h1]; exact h2
theorem stk_new : ∀ {r : List (V × AV)}, s2.length = k → StkOk G U ν σ' H' n' r → StkOk G (T3 k b T U H) ν σ' H' n' s2 → StkOk G (T3 k b T U H) ν σ' H' n' (r ++ s2)
  | [], _, _, h => h
  | (v, av) :: r, e, h, h2 => by
    refine ⟨?_, stk_new e h.2 h2⟩
    have q := h.1
    show Rep G _ ν σ' H' n' (.stk (r ++ s2).length) v av
    rw [List.length_append, e]
    cases av with
    | dat d => exact dq_le (T3_le hf) q
    | obj l => exact q
    | pk i => exact q
    | scr ns => obtain ⟨a, e, q⟩ := q; exact ⟨a, e, (T3_le hf).sqL q⟩
    | own ds =>
      obtain ⟨a, vs, e1, e2, e3, e4⟩ := q
      exact ⟨a, vs, e1, T3_stk hf e2, e3, dqAll_le (T3_le hf) e4⟩
/-- what was hidden is there -/
theorem rep_back (hB : Le (dh T H) (dh U H')) (hm : ∀ l, l < n → ν l = μ l) (hn : n ≤ n') {t : Tag} (ht : hidT k b t = true) {v : V} {av : AV} (hp : ∀ i, av = .pk i → σ'[i]? = some (some v)) (q : Rep G T μ σ H n t v av) : Rep G (T3 k b T U H) ν σ' H' n' t v av := by
  have le : Le (dh T H) (dh (T3 k b T U H) H') := hB.trans (T3_le hf)
  cases av with
  | dat d => exact dq_le le q
  | obj l => exact ⟨Nat.lt_of_lt_of_le q.1 hn, by rw [hm l q.1]; exact q.2⟩
  | pk i => exact hp i rfl
  | scr ns => obtain ⟨a, e, q⟩ := q; exact ⟨a, e, le.sqL q⟩
  | own ds =>
    obtain ⟨a, vs, e1, e2, e3, e4⟩ := q
    obtain ⟨q1, q2⟩ := hid_at hf (by rw [e2]; exact ht) e3
    exact ⟨a, vs, e1, by rw [q1]; exact e2, q2, dqAll_le le e4⟩
theorem stk_back (hB : Le (dh T H) (dh U H')) (hm : ∀ l, l < n → ν l = μ l) (hn : n ≤ n') : ∀ {s2 : List (V × AV)}, s2.length ≤ k → (∀ v i, (v, AV.pk i) ∈ s2 → σ'[i]? = some (some v)) → StkOk G T μ σ H n s2 → StkOk G (T3 k b T U H) ν σ' H' n' s2
  | [], _, _, _ => True.intro
  | (v, av) :: r, e, hp, h => by
    have e' : r.length < k := e
    refine ⟨rep_back hf hB hm hn (t := .stk r.length) (show hidT k b (.stk r.length) = true from decide_eq_true e') (fun i z => hp v i (by rw [← z]; exact List.mem_cons_self ..)) h.1, stk_back hB hm hn (by omega) (fun v i q => hp v i (List.mem_cons_of_mem _ q)) h.2⟩
theorem repF_T3 {v : V} {av : AV} (h : RepF G U ν H' n' v av) : RepF G (T3 k b T U H) ν H' n' v av := by
  cases av with
  | dat d => exact dq_le (T3_le hf) h
  | _ => exact h
theorem repO_T3 {o : Option HO} {so : SO} (h : RepO G U ν H' n' o so) : RepO G (T3 k b T U H) ν H' n' o so := by
  cases o with
  | none => exact h
  | some o =>
    cases o <;> cases so <;> first
      | exact h
      | exact Paired.imp h fun a b q => repF_T3 hf q
      | exact Paired.imp h fun a b q => ⟨q.1, repF_T3 hf q.2⟩
      | exact ⟨h.1, Paired.imp h.2 fun a b q => ⟨q.1, repF_T3 hf q.2⟩⟩
end
/-- the lower stack hidden -/
theorem Rel.frame (h : Rel G fx (s1 ++ s2) s σ H) : ∃ fx', Rel G fx' s1 s σ H ∧ Le fx.B fx'.B ∧ ∀ (P : Hp → Prop), Mono P → ∀ r' s' σ' H', RelP G fx' r' s' σ' H' P → (∀ v i, (v, AV.pk i) ∈ s2 → σ'[i]? = some (some v)) → RelP G fx (r' ++ s2) s' σ' H' P := by
  obtain ⟨T, μ, h⟩ := h
  refine ⟨fxOf fx s2.length false T μ s.sto.length H, ⟨T1 s2.length false T, μ, ?_⟩, fun a o e => dh_some.mpr (h.B a o e), fun P hP r' s' σ' H' h' hp => ?_⟩
  · refine ⟨stk_hide rfl h.stk, h.len, fun i av e => ?_, fun l so e => ?_, fr_hide h, fun a o e => ?_, Nat.le_refl _, fun _ _ => rfl⟩
    · obtain ⟨q1, v, q2, q3⟩ := h.env i av e
      refine ⟨q1, v, q2, ?_⟩
      cases av with
      | dat d => show Dq G.K (dh _ H) v d; rw [dh_T1]; exact q3
      | obj l => exact q3
      | pk i => exact q3
      | scr ns => obtain ⟨a, e, q⟩ := q3; exact ⟨a, e, by rw [dh_T1]; exact q⟩
      | own ds =>
        obtain ⟨a, vs, e1, e2, e3, e4⟩ := q3
        exact ⟨a, vs, e1, by unfold T1; rw [e2]; rfl, e3, by rw [dh_T1]; exact e4⟩
    · obtain ⟨q1, q2⟩ := h.sto l so e
      exact ⟨by unfold T1; rw [q1], repO_T1 q2⟩
    · obtain ⟨q1, q2⟩ := dh_some.mp e
      exact ⟨T1_data.mpr q1, q2⟩
  · obtain ⟨U, ν, h', hp'⟩ := h'
    have hf := h'.fr
    have hB : Le (dh T H) (dh U H') := fun a o e => dh_some.mpr (h'.B a o e)
    refine ⟨T3 s2.length false T U H, ν, ⟨stk_new hf rfl h'.stk (stk_back hf hB h'.mu h'.n0 (Nat.le_refl _) hp (stk_low h.stk)), h'.len, fun i av e => ?_, fun l so e => ?_, fun a o e => ?_, fun a o e => ?_, Nat.le_trans h.n0 h'.n0, fun l hl => (h'.mu l (Nat.lt_of_lt_of_le hl h.n0)).trans (h.mu l hl)⟩, hP _ _ (T3_le hf) hp'⟩
    · obtain ⟨q1, v, q2, q3⟩ := h'.env i av e
      refine ⟨q1, v, q2, ?_⟩
      cases av with
      | dat d => exact dq_le (T3_le hf) q3
      | obj l => exact q3
      | pk i => exact q3
      | scr ns => obtain ⟨a, e, q⟩ := q3; exact ⟨a, e, (T3_le hf).sqL q⟩
      | own ds =>
        obtain ⟨a, vs, e1, e2, e3, e4⟩ := q3
        exact ⟨a, vs, e1, T3_slot hf rfl e2, e3, dqAll_le (T3_le hf) e4⟩
    · obtain ⟨q1, q2⟩ := h'.sto l so e
      exact ⟨T3_obj hf q1, repO_T3 hf q2⟩
    · obtain ⟨q1, q2⟩ := h.fr a o e
      obtain ⟨q3, q4⟩ := hf a o (by show (if hidT _ false (T a) = true then H a else fx.fr a) = some o; rw [q1]; exact e)
      refine ⟨?_, q4⟩
      unfold T3
      rw [q1, q3]; rfl
    · have e1 := hB a o (dh_some.mpr (h.B a o e))
      exact dh_some.mp (T3_le hf a o e1)
/-- .. and the caller's own slots: a call -/
theorem Rel.callee (hn : NoPk s1) (h : Rel G fx (s1 ++ s2) s σ H) : ∃ fx', Rel G fx' s1 ⟨[], s.sto⟩ [] H ∧ ∀ (P : Hp → Prop), Mono P → ∀ r' sto' H', NoPk r' → RelP G fx' r' ⟨[], sto'⟩ [] H' P → RelP G fx (r' ++ s2) ⟨s.env, sto'⟩ σ H' P := by
  obtain ⟨T, μ, h⟩ := h
  refine ⟨fxOf fx s2.length true T μ s.sto.length H, ⟨T1 s2.length true T, μ, ?_⟩, fun P hP r' sto' H' hr h' => ?_⟩
  · refine ⟨(stk_hide rfl h.stk).sig hn, rfl, fun i av e => by simp at e, fun l so e => ?_, fr_hide h, fun a o e => ?_, Nat.le_refl _, fun _ _ => rfl⟩
    · obtain ⟨q1, q2⟩ := h.sto l so e
      exact ⟨by unfold T1; rw [q1], repO_T1 q2⟩
    · obtain ⟨q1, q2⟩ := dh_some.mp e
      exact ⟨T1_data.mpr q1, q2⟩
  · obtain ⟨U, ν, h', hp'⟩ := h'
    have hf := h'.fr
    have hB : Le (dh T H) (dh U H') := fun a o e => dh_some.mpr (h'.B a o e)
    have low : ∀ v i, (v, AV.pk i) ∈ s2 → σ[i]? = some (some v) := by
      have go : ∀ {s2 : List (V × AV)}, StkOk G T μ σ H s.sto.length s2 → ∀ v i, (v, AV.pk i) ∈ s2 → σ[i]? = some (some v) := by
        intro s2
        induction s2 with
        | nil => intro _ v i q; cases q
        | cons p r ih =>
          intro hs v i q
          rcases List.mem_cons.mp q with e | q
          · subst e; exact hs.1
          · exact ih hs.2 v i q
      exact go (stk_low h.stk)
    refine ⟨T3 s2.length true T U H, ν, ⟨stk_new hf rfl (h'.stk.sig hr) (stk_back hf hB h'.mu h'.n0 (Nat.le_refl _) low (stk_low h.stk)), h.len, fun i av e => ?_, fun l so e => ?_, fun a o e => ?_, fun a o e => ?_, Nat.le_trans h.n0 h'.n0, fun l hl => (h'.mu l (Nat.lt_of_lt_of_le hl h.n0)).trans (h.mu l hl)⟩, hP _ _ (T3_le hf) hp'⟩
    · obtain ⟨q1, v, q2, q3⟩ := h.env i av e
      exact ⟨q1, v, q2, rep_back hf hB h'.mu h'.n0 rfl (fun j z => (q1 j z).elim) q3⟩
    · obtain ⟨q1, q2⟩ := h'.sto l so e
      exact ⟨T3_obj hf q1, repO_T3 hf q2⟩
    · obtain ⟨q1, q2⟩ := h.fr a o e
      obtain ⟨q3, q4⟩ := hf a o (by show (if hidT _ true (T a) = true then H a else fx.fr a) = some o; rw [q1]; exact e)
      refine ⟨?_, q4⟩
      unfold T3
      rw [q1, q3]; rfl
    · have e1 := hB a o (dh_some.mpr (h.B a o e))
      exact dh_some.mp (T3_le hf a o e1)
theorem Rel.p (h : Rel G fx s1 s σ H) : RelP G fx s1 s σ H fun _ => True := let ⟨T, μ, h⟩ := h; ⟨T, μ, h, True.intro⟩
theorem RelP.rel {P : Hp → Prop} (h : RelP G fx s1 s σ H P) : Rel G fx s1 s σ H := let ⟨T, μ, h, _⟩ := h; ⟨T, μ, h⟩
theorem RelP.pop {P : Hp → Prop} {p : V × AV} (h : RelP G fx (p :: s1) s σ H P) : RelP G fx s1 s σ H P := let ⟨T, μ, h, q⟩ := h; ⟨T, μ, h.pop, q⟩
end
end Fe

/-! Fe4: the judgements; expressions. -/
namespace Fe
open PySem PySem.Spec PyProof.Rows L2

def RepX (G : Kx) (e : Exc) (c : Value) (d : Option Addr) : Hp → Prop := fun A => G.mg e.c = some c ∧ ((e.fs = [] ∧ d = none) ∨ ∃ a fs, d = some a ∧ A a = some (.xd fs) ∧ ∀ f x, (f, x) ∈ e.fs → ∃ v, fs.lookup f = some v ∧ Dq G.K A v x)
theorem RepX.mono {G : Kx} {e : Exc} {c : Value} {d : Option Addr} : Mono (RepX G e c d) := fun A B le h => ⟨h.1, by
  rcases h.2 with h | ⟨a, fs, e1, e2, e3⟩
  · exact .inl h
  · exact .inr ⟨a, fs, e1, le _ _ e2, fun f x m => let ⟨v, q1, q2⟩ := e3 f x m; ⟨v, q1, dq_le le q2⟩⟩⟩
def Post {α : Type} (r : Res α) (Φ : α → Sx → Prop) (Ξ : Exc → Sx → Prop) : Prop := match r with
  | .ok a s => Φ a s
  | .exc e s => Ξ e s
  | .stuck => False
theorem Post.bind {α β : Type} {r : Res α} {k : α → Sx → Res β} {Φ : β → Sx → Prop} {Ξ : Exc → Sx → Prop} (h : Post (r.bind k) Φ Ξ) : Post r (fun a s => Post (k a s) Φ Ξ) Ξ := by
  cases r <;> exact h
theorem Post.mono {α : Type} {r : Res α} {Φ Φ' : α → Sx → Prop} {Ξ Ξ' : Exc → Sx → Prop} (h : Post r Φ Ξ) (f : ∀ a s, Φ a s → Φ' a s) (g : ∀ e s, Ξ e s → Ξ' e s) : Post r Φ' Ξ' := by
  cases r with
  | ok a s => exact f a s h
  | exc e s => exact g e s h
  | stuck => exact h
def ofO {α : Type} (o : Option (α × Sx)) : Res α := match o with
  | some (a, s) => .ok a s
  | none => .stuck
theorem Post.ofO {α : Type} {o : Option (α × Sx)} {Φ : α → Sx → Prop} {Ξ : Exc → Sx → Prop} (h : Post (Fe.ofO o) Φ Ξ) : ∃ a s, o = some (a, s) ∧ Φ a s := by
  cases o with
  | none => exact h.elim
  | some p => exact ⟨p.1, p.2, rfl, h⟩
/-- an exception at these slots is what is wished -/
def Xw (G : Kx) (W : WX) (fx : Fx) (stk : List (V × AV)) (σ : L2.St) : Exc → Sx → Prop := fun e s' => ∀ c d H', RelP G fx stk s' σ H' (RepX G e c d) → W c d σ H'
theorem Xw.up {G : Kx} {W : WX} {fx : Fx} {stk : List (V × AV)} {σ : L2.St} {p : V × AV} {e : Exc} {s : Sx} (h : Xw G W fx stk σ e s) : Xw G W fx (p :: stk) σ e s := fun c d H' q => h c d H' q.pop
def tOf (G : Kx) (W : WX) (f : Sx → Res AV) : TE := fun σ H Q => ∃ fx stk s, Rel G fx stk s σ H ∧ Post (f s) (fun av s' => ∀ v H', Rel G fx ((v, av) :: stk) s' σ H' → Q v H') (Xw G W fx stk σ)
def tTOf (G : Kx) (W : WX) (f : Sx → Res Bool) : TT := fun σ H Q => ∃ fx stk s, Rel G fx stk s σ H ∧ Post (f s) (fun b s' => ∀ H', Rel G fx stk s' σ H' → Q b H') (Xw G W fx stk σ)
def tAOf (G : Kx) (W : WX) (f : Sx → Res (List AV)) : TA := fun σ H Q => ∃ fx stk s, Rel G fx stk s σ H ∧ Post (f s) (fun avs s' => ∀ (ps : List (V × AV)) H', ps.map (·.2) = avs → Rel G fx (ps.reverse ++ stk) s' σ H' → Q (ps.map (·.1)) H') (Xw G W fx stk σ)
abbrev gx (X : Cx) : Kx := ⟨X.K, X.mg⟩
def FE (X : Cx) (W : WX) (e : Expr) (f : Sx → Res AV) : Prop := PE X e (tOf (gx X) W f)
def FT (X : Cx) (W : WX) (e : Expr) (f : Sx → Res Bool) : Prop := PT X e (tTOf (gx X) W f)
def FW (X : Cx) (W : WX) (e : Expr) (f : Sx → Res Bool) : Prop := PW X e (tTOf (gx X) W f)
def FA (X : Cx) (W : WX) (es : List Expr) (f : Sx → Res (List AV)) : Prop := PA X es (tAOf (gx X) W f)
theorem pe_imp {X : Cx} {e : Expr} {t t' : TE} (h : PE X e t) (i : ∀ σ H Q, t' σ H Q → t σ H Q) : PE X e t' := ⟨fun pins s σ H Q I q => h.run pins s σ H Q I (i _ _ _ q)⟩
theorem pt_imp {X : Cx} {e : Expr} {t t' : TT} (h : PT X e t) (i : ∀ σ H Q, t' σ H Q → t σ H Q) : PT X e t' := ⟨fun pins s σ H Q I q => h.run pins s σ H Q I (i _ _ _ q)⟩
theorem pw_imp {X : Cx} {e : Expr} {t t' : TT} (h : PW X e t) (i : ∀ σ H Q, t' σ H Q → t σ H Q) : PW X e t' := ⟨fun whole pins s σ H Q I q => h.run whole pins s σ H Q I (i _ _ _ q)⟩
theorem pa_imp {X : Cx} {e : List Expr} {t t' : TA} (h : PA X e t) (i : ∀ σ H Q, t' σ H Q → t σ H Q) : PA X e t' := ⟨fun pos pins s σ H Q I q => h.run pos pins s σ H Q I (i _ _ _ q)⟩

/-! ### names, constants -/
def rdv (i : Nat) : Option (Option AV) → Option AV
  | some (some (.own _)) => some (.pk i)
  | some (some (.dat d)) => some (.dat d)
  | some (some (.obj l)) => some (.obj l)
  | some (some (.scr l)) => some (.scr l)
  | _ => none
def mVar (i : Nat) : Sx → Res AV := fun s => ofO ((rdv i s.env[i]?).map fun av => (av, s))
def mC (d : PyData) : Sx → Res AV := fun s => .ok (.dat d) s
section
variable {X : Cx} {W : WX} {pos : Pos}
theorem Rel.read {G : Kx} {fx : Fx} {stk : List (V × AV)} {s : Sx} {σ : L2.St} {H : Hp} {i : Nat} {av : AV} (h : Rel G fx stk s σ H) (e : rdv i s.env[i]? = some av) : ∃ v, σ[i]? = some (some v) ∧ Rel G fx ((v, av) :: stk) s σ H := by
  obtain ⟨T, μ, h⟩ := h
  match he : s.env[i]? with
  | some (some bv) =>
    obtain ⟨_, v, q1, q2⟩ := h.env i bv he
    refine ⟨v, q1, T, μ, h.push ?_⟩
    rw [he] at e
    cases bv <;> cases e <;> first | exact q1 | exact q2
  | some none => rw [he] at e; cases e
  | none => rw [he] at e; cases e
theorem fe_var (i : Nat) {x : Str} (hN : X.N[i]? = some x := by rfl) (hv : Vis X.env.scope x := by first | exact Or.inl rfl | exact Or.inr (Or.inl rfl) | exact Or.inr (Or.inr rfl)) (hd : (x == ("__debug__" : Str)) = false := by decide)
    (hcd : (x == ("__classdict__" : Str)) = false := by decide) : FE X W (.Name x pos) (mVar i) := pe_imp (pe_var hN hv hd hcd) fun σ H Q ⟨fx, stk, s, h, p⟩ => by
  obtain ⟨av, s', e, p⟩ := Post.ofO p
  obtain ⟨bv, e1, e2⟩ := Option.map_eq_some_iff.mp e
  cases e2
  obtain ⟨v, q1, q2⟩ := h.read e1
  exact ⟨v, q1, p v H q2⟩
theorem c_imp {G : Kx} {v : V} {d : PyData} (hd : ∀ H, Dq G.K H v d) : ∀ σ H Q, tOf G W (mC d) σ H Q → tC v σ H Q := fun σ H Q ⟨fx, stk, s, h, p⟩ => p v H (h.scal hd)
theorem fe_int {i : Int} {j : Nat} : FE X W (.Constant (.int i) j pos) (mC (.int i)) := pe_imp pe_int (c_imp fun _ => .int i)
theorem fe_bl {i : Bool} {j : Nat} : FE X W (.Constant (.bool i) j pos) (mC (.bool i)) := pe_imp pe_bl (c_imp fun _ => .bl i)
theorem fe_non {j : Nat} : FE X W (.Constant .none j pos) (mC .none) := pe_imp pe_non (c_imp fun _ => .non)
theorem fe_str {i : Str} {j : Nat} : FE X W (.Constant (.str i) j pos) (mC (.str i)) := pe_imp pe_str (c_imp fun _ => .str i)
theorem fe_glob {x : Str} {v : V} {u : Value} {d : PyData} (hg : Gl X x) (hm : X.mg x = some u) (r : RelV v u) (hd : ∀ H, Dq X.K H v d) (hdb : (x == ("__debug__" : Str)) = false := by decide) : FE X W (.Name x pos) (mC d) := pe_imp (pe_glob hg hm r hdb) (c_imp hd)
end

/-! ### operations on values -/
def V2 (G : Kx) (r : R2) (g : AV → AV → Sx → Option (AV × Sx)) : Prop := ∀ fx stk s σ H x a y b, Rel G fx ((y, b) :: (x, a) :: stk) s σ H → ∀ c s', g a b s = some (c, s') → ∀ Q : VK, (∀ v H', Rel G fx ((v, c) :: stk) s' σ H' → Q v H') → r x y H Q
def V1 (G : Kx) (r : V → Hp → VK → Prop) (g : AV → Sx → Option (AV × Sx)) : Prop := ∀ fx stk s σ H x a, Rel G fx ((x, a) :: stk) s σ H → ∀ c s', g a s = some (c, s') → ∀ Q : VK, (∀ v H', Rel G fx ((v, c) :: stk) s' σ H' → Q v H') → r x H Q
def VN (G : Kx) (r : List V → Hp → VK → Prop) (g : List AV → Sx → Option (AV × Sx)) : Prop := ∀ fx stk s σ H (ps : List (V × AV)), Rel G fx (ps.reverse ++ stk) s σ H → ∀ c s', g (ps.map (·.2)) s = some (c, s') → ∀ Q : VK, (∀ v H', Rel G fx ((v, c) :: stk) s' σ H' → Q v H') → r (ps.map (·.1)) H Q
def mOp (g : AV → AV → Sx → Option (AV × Sx)) (f1 f2 : Sx → Res AV) : Sx → Res AV := fun s => (f1 s).bind fun a s1 => (f2 s1).bind fun b s2 => ofO (g a b s2)
def mUn (g : AV → Sx → Option (AV × Sx)) (f : Sx → Res AV) : Sx → Res AV := fun s => (f s).bind fun a s1 => ofO (g a s1)
section
variable {G : Kx} {W : WX}
theorem V2.imp {r r' : R2} {g : AV → AV → Sx → Option (AV × Sx)} (h : V2 G r g) (i : ∀ x y H Q, r x y H Q → r' x y H Q) : V2 G r' g := fun fx stk s σ H x a y b h1 c s' e Q q => i _ _ _ _ (h fx stk s σ H x a y b h1 c s' e Q q)
/-- two ways, by the first that gives something -/
def orG (g g' : AV → AV → Sx → Option (AV × Sx)) : AV → AV → Sx → Option (AV × Sx) := fun a b s => match g a b s with | some r => some r | none => g' a b s
theorem V2.or {r r' : R2} {g g' : AV → AV → Sx → Option (AV × Sx)} (h : V2 G r g) (h' : V2 G r' g') : V2 G (fun x y H Q => r x y H Q ∨ r' x y H Q) (orG g g') := fun fx stk s σ H x a y b h1 c s' e Q q => by
  unfold orG at e
  split at e
  · rename_i r0 e0
    cases e
    exact .inl (h fx stk s σ H x a y b h1 c s' e0 Q q)
  · exact .inr (h' fx stk s σ H x a y b h1 c s' e Q q)
theorem op_step {r : R2} {g : AV → AV → Sx → Option (AV × Sx)} {f1 f2 : Sx → Res AV} (hv : V2 G r g) : ∀ σ H Q, tOf G W (mOp g f1 f2) σ H Q → tOp r (tOf G W f1) (tOf G W f2) σ H Q := fun σ H Q ⟨fx, stk, s, h, p⟩ =>
  ⟨fx, stk, s, h, (Post.bind p).mono (fun a s1 p v H1 h1 => ⟨fx, _, s1, h1, (Post.bind p).mono (fun b s2 p w H2 h2 => by
    obtain ⟨c, s', e, q⟩ := Post.ofO p
    exact hv fx stk s2 σ H2 v a w b h2 c s' e Q q) fun e s2 x => x.up⟩) fun _ _ x => x⟩
theorem un_step {r : V → Hp → VK → Prop} {g : AV → Sx → Option (AV × Sx)} {f : Sx → Res AV} (hv : V1 G r g) : ∀ σ H Q, tOf G W (mUn g f) σ H Q → tUn r (tOf G W f) σ H Q := fun σ H Q ⟨fx, stk, s, h, p⟩ =>
  ⟨fx, stk, s, h, (Post.bind p).mono (fun a s1 p v H1 h1 => by
    obtain ⟨c, s', e, q⟩ := Post.ofO p
    exact hv fx stk s1 σ H1 v a h1 c s' e Q q) fun _ _ x => x⟩
end
section
variable {X : Cx} {W : WX} {a b c : Expr} {pos : Pos} {f1 f2 f3 : Sx → Res AV} {g g' : AV → AV → Sx → Option (AV × Sx)} {r r' : R2}
theorem fe_op {op : Operator} (ho : OpR X (binaryOp op) r) (hv : V2 (gx X) r g) (ha : FE X W a f1) (hb : FE X W b f2) : FE X W (.BinOp a op b pos) (mOp g f1 f2) := pe_imp (pe_op ho ha hb) (op_step hv)
theorem fe_un {op : UnaryOp} {r : V → Hp → VK → Prop} {g : AV → Sx → Option (AV × Sx)} (ho : UnR X (unaryOp op) r) (hv : V1 (gx X) r g) (ha : FE X W a f1) : FE X W (.UnaryOp op a pos) (mUn g f1) := pe_imp (pe_un ho ha) (un_step hv)
theorem fe_cmp {op : CmpOp} (ho : OpR X (compareOp op) r) (hv : V2 (gx X) r g) (ha : FE X W a f1) (hb : FE X W b f2) (hm : behindInMarks op b = false := by rfl) : FE X W (.Compare a [op] [b] pos) (mOp g f1 f2) := pe_imp (pe_cmpR ho ha hb hm) (op_step hv)
def asB : AV → Sx → Option (Bool × Sx)
  | .dat (.bool b), s => some (b, s)
  | _, _ => none
def mTest (f : Sx → Res AV) : Sx → Res Bool := fun s => (f s).bind fun a s1 => ofO (asB a s1)
theorem asB_some {av : AV} {s s' : Sx} {b : Bool} (e : asB av s = some (b, s')) : av = .dat (.bool b) ∧ s' = s := by
  unfold asB at e
  split at e
  · cases e; exact ⟨rfl, rfl⟩
  · cases e
theorem Rel.bl {G : Kx} {fx : Fx} {stk : List (V × AV)} {s : Sx} {σ : L2.St} {H : Hp} {v : V} {b : Bool} (h : Rel G fx ((v, .dat (.bool b)) :: stk) s σ H) : v = .bl b := by
  obtain ⟨T, μ, h⟩ := h
  cases (show Dq G.K (dh T H) v (.bool b) from h.stk.1) with
  | bl _ => rfl
theorem Rel.intV {G : Kx} {fx : Fx} {stk : List (V × AV)} {s : Sx} {σ : L2.St} {H : Hp} {v : V} {b : Int} (h : Rel G fx ((v, .dat (.int b)) :: stk) s σ H) : v = .int b := by
  obtain ⟨T, μ, h⟩ := h
  cases (show Dq G.K (dh T H) v (.int b) from h.stk.1) with
  | int _ => rfl
theorem Rel.strV {G : Kx} {fx : Fx} {stk : List (V × AV)} {s : Sx} {σ : L2.St} {H : Hp} {v : V} {b : Str} (h : Rel G fx ((v, .dat (.str b)) :: stk) s σ H) : v = .str b := by
  obtain ⟨T, μ, h⟩ := h
  cases (show Dq G.K (dh T H) v (.str b) from h.stk.1) with
  | str _ => rfl
theorem Rel.nonV {G : Kx} {fx : Fx} {stk : List (V × AV)} {s : Sx} {σ : L2.St} {H : Hp} {v : V} (h : Rel G fx ((v, .dat .none) :: stk) s σ H) : v = .non := by
  obtain ⟨T, μ, h⟩ := h
  cases (show Dq G.K (dh T H) v .none from h.stk.1) with
  | non => rfl
theorem test_step {G : Kx} {f : Sx → Res AV} {t : TE} (hi : ∀ σ H Q, tOf G W f σ H Q → t σ H Q) : ∀ σ H Q, tTOf G W (mTest f) σ H Q → tTest t σ H Q := fun σ H Q ⟨fx, stk, s, h, p⟩ => hi _ _ _
  ⟨fx, stk, s, h, (Post.bind p).mono (fun a s1 p v H1 h1 => by
    obtain ⟨b, s', e, q⟩ := Post.ofO p
    obtain ⟨rfl, rfl⟩ := asB_some e
    exact ⟨b, h1.bl, q H1 h1.pop⟩) fun _ _ x => x⟩
theorem ft_cmp {op : CmpOp} (ho : OpR X (compareOp op) r) (hv : V2 (gx X) r g) (ha : FE X W a f1) (hb : FE X W b f2) (hm : behindInMarks op b = false := by rfl) : FT X W (.Compare a [op] [b] pos) (mTest (mOp g f1 f2)) := pt_imp (pt_cmpR ho ha hb hm) (test_step (op_step hv))
theorem ft_val (ha : FE X W a f1) (he : ∀ whole, isTrue a X.env whole = (do let v ← whole; standAt a.pos; holding [v] (truthy v)) := by intro _; rfl) : FT X W a (mTest f1) := pt_imp (pt_val ha he) (test_step fun _ _ _ h => h)

/-! ### and, or, not, if -/
def mAnd (t u : Sx → Res Bool) : Sx → Res Bool := fun s => (t s).bind fun b s1 => if b = true then u s1 else .ok false s1
def mOr (t u : Sx → Res Bool) : Sx → Res Bool := fun s => (t s).bind fun b s1 => if b = true then .ok true s1 else u s1
def mNot (t : Sx → Res Bool) : Sx → Res Bool := fun s => (t s).bind fun b s1 => .ok (!b) s1
def mIf (t : Sx → Res Bool) (f g : Sx → Res AV) : Sx → Res AV := fun s => (t s).bind fun b s1 => if b = true then f s1 else g s1
def mBl (t : Sx → Res Bool) : Sx → Res AV := fun s => (t s).bind fun b s1 => .ok (.dat (.bool b)) s1
variable {t1 t2 : Sx → Res Bool} {rest : List Expr}
theorem fw_one_and (ha : FT X W a t1) : FW X W (.BoolOp .And [a] pos) t1 := pw_and1 ha
theorem fw_one_or (ha : FT X W a t1) : FW X W (.BoolOp .Or [a] pos) t1 := pw_or1 ha
theorem fw_and (ha : FT X W a t1) (hb : FW X W (.BoolOp .And (b :: rest) pos) t2) : FW X W (.BoolOp .And (a :: b :: rest) pos) (mAnd t1 t2) := pw_imp (pw_and ha hb) fun σ H Q ⟨fx, stk, s, h, p⟩ =>
  ⟨fx, stk, s, h, (Post.bind p).mono (fun k s1 p H1 h1 => by
    cases k with
    | true => exact ⟨fx, stk, s1, h1, p⟩
    | false => exact p H1 h1) fun _ _ x => x⟩
theorem fw_or (ha : FT X W a t1) (hb : FW X W (.BoolOp .Or (b :: rest) pos) t2) : FW X W (.BoolOp .Or (a :: b :: rest) pos) (mOr t1 t2) := pw_imp (pw_or ha hb) fun σ H Q ⟨fx, stk, s, h, p⟩ =>
  ⟨fx, stk, s, h, (Post.bind p).mono (fun k s1 p H1 h1 => by
    cases k with
    | true => exact p H1 h1
    | false => exact ⟨fx, stk, s1, h1, p⟩) fun _ _ x => x⟩
theorem FW.t (h : FW X W a t1) : FT X W a t1 := PW.pt h
theorem ft_not (ha : FT X W a t1) : FT X W (.UnaryOp .Not a pos) (mNot t1) := pt_imp (pt_not ha) fun σ H Q ⟨fx, stk, s, h, p⟩ =>
  ⟨fx, stk, s, h, (Post.bind p).mono (fun k s1 p H1 h1 => p H1 h1) fun _ _ x => x⟩
theorem fe_if (hc : FT X W c t1) (ha : FE X W a f1) (hb : FE X W b f2) : FE X W (.IfExp c a b pos) (mIf t1 f1 f2) := pe_imp (pe_ifExp hc ha hb) fun σ H Q ⟨fx, stk, s, h, p⟩ =>
  ⟨fx, stk, s, h, (Post.bind p).mono (fun k s1 p H1 h1 => by
    cases k with
    | true => exact ⟨fx, stk, s1, h1, p⟩
    | false => exact ⟨fx, stk, s1, h1, p⟩) fun _ _ x => x⟩
/-- as values, of truth values -/
def mAndV (f g : Sx → Res AV) : Sx → Res AV := fun s => (mTest f s).bind fun b s1 => if b = true then g s1 else .ok (.dat (.bool false)) s1
def mOrV (f g : Sx → Res AV) : Sx → Res AV := fun s => (mTest f s).bind fun b s1 => if b = true then .ok (.dat (.bool true)) s1 else g s1
def mNotV (f : Sx → Res AV) : Sx → Res AV := fun s => (mTest f s).bind fun b s1 => .ok (.dat (.bool (!b))) s1
theorem fe_one {op : BoolOp} (ha : FE X W a f1) : FE X W (.BoolOp op [a] pos) f1 := pe_one ha
theorem fe_and (ha : FE X W a f1) (hb : FE X W (.BoolOp .And (b :: rest) pos) f2) : FE X W (.BoolOp .And (a :: b :: rest) pos) (mAndV f1 f2) := pe_imp (pe_and ha hb) fun σ H Q ⟨fx, stk, s, h, p⟩ =>
  ⟨fx, stk, s, h, (Post.bind (Post.bind p)).mono (fun k s1 p v H1 h1 => by
    obtain ⟨k, s2, e, p⟩ := Post.ofO p
    obtain ⟨rfl, rfl⟩ := asB_some e
    refine ⟨k, h1.bl, ?_⟩
    cases k with
    | true => exact ⟨fx, stk, s2, h1.pop, p⟩
    | false => exact p (.bl false) H1 (h1.pop.scal fun _ => .bl false)) fun _ _ x => x⟩
theorem fe_or (ha : FE X W a f1) (hb : FE X W (.BoolOp .Or (b :: rest) pos) f2) : FE X W (.BoolOp .Or (a :: b :: rest) pos) (mOrV f1 f2) := pe_imp (pe_or ha hb) fun σ H Q ⟨fx, stk, s, h, p⟩ =>
  ⟨fx, stk, s, h, (Post.bind (Post.bind p)).mono (fun k s1 p v H1 h1 => by
    obtain ⟨k, s2, e, p⟩ := Post.ofO p
    obtain ⟨rfl, rfl⟩ := asB_some e
    refine ⟨k, h1.bl, ?_⟩
    cases k with
    | true => exact p (.bl true) H1 (h1.pop.scal fun _ => .bl true)
    | false => exact ⟨fx, stk, s2, h1.pop, p⟩) fun _ _ x => x⟩
theorem fe_not (ha : FE X W a f1) : FE X W (.UnaryOp .Not a pos) (mNotV f1) := pe_imp (pe_not ha) fun σ H Q ⟨fx, stk, s, h, p⟩ =>
  ⟨fx, stk, s, h, (Post.bind (Post.bind p)).mono (fun k s1 p v H1 h1 => by
    obtain ⟨k, s2, e, p⟩ := Post.ofO p
    obtain ⟨rfl, rfl⟩ := asB_some e
    exact ⟨k, h1.bl, p (.bl (!k)) H1 (h1.pop.scal fun _ => .bl (!k))⟩) fun _ _ x => x⟩
/-- a op b op c, ints -/
def asI : AV → Option Int
  | .dat (.int i) => some i
  | _ => none
theorem asI_some {av : AV} {i : Int} (e : asI av = some i) : av = .dat (.int i) := by
  unfold asI at e
  split at e
  · cases e; rfl
  · cases e
def mChain (p q : Int → Int → Bool) (f g k : Sx → Res AV) : Sx → Res AV := fun s => (f s).bind fun a s1 => (g s1).bind fun b s2 => match asI a, asI b with
  | some i, some j => if p i j = true then (k s2).bind fun c s3 => (match asI c with | some l => .ok (.dat (.bool (q j l))) s3 | none => .stuck) else .ok (.dat (.bool false)) s2
  | _, _ => .stuck
theorem chain_step {G : Kx} {p q : Int → Int → Bool} : ∀ σ H Q, tOf G W (mChain p q f1 f2 f3) σ H Q → tChain (rI0 fun i j => .bl (p i j)) (rI0 fun i j => .bl (q i j)) (tOf G W f1) (tOf G W f2) (tOf G W f3) σ H Q := fun σ H Q ⟨fx, stk, s, h, pp⟩ =>
  ⟨fx, stk, s, h, (Post.bind pp).mono (fun a s1 pp v H1 h1 => ⟨fx, _, s1, h1, (Post.bind pp).mono (fun b s2 p2 w H2 h2 => by
    cases ea : asI a with
    | none => rw [ea] at p2; exact p2.elim
    | some i =>
      cases eb : asI b with
      | none => rw [ea, eb] at p2; exact p2.elim
      | some j =>
        rw [ea, eb] at p2
        have e1 := asI_some ea
        have e2 := asI_some eb
        subst e1 e2
        refine ⟨i, j, h2.pop.intV, h2.intV, p i j, rfl, ?_⟩
        have p3 : Post (if p i j = true then (f3 s2).bind fun c s3 => (match asI c with | some l => .ok (.dat (.bool (q j l))) s3 | none => .stuck) else .ok (.dat (.bool false)) s2) (fun av s' => ∀ v H', Rel G fx ((v, av) :: stk) s' σ H' → Q v H') (Xw G W fx stk σ) := p2
        cases hp : p i j with
        | false =>
          rw [hp] at p3
          rw [if_neg Bool.false_ne_true]
          exact p3 (.bl false) H2 (h2.pop.pop.scal fun _ => .bl false)
        | true =>
          rw [hp] at p3
          rw [if_pos rfl]
          refine ⟨fx, stk, s2, h2.pop.pop, (Post.bind p3).mono (fun c s3 p4 z H3 h3 => ?_) fun _ _ x => x⟩
          cases ec : asI c with
          | none => rw [ec] at p4; exact p4.elim
          | some l =>
            rw [ec] at p4
            have e3 := asI_some ec
            subst e3
            exact ⟨j, l, h2.intV, h3.intV, p4 _ H3 (h3.pop.scal fun _ => .bl _)⟩) fun _ _ x => x.up⟩) fun _ _ x => x⟩
theorem fe_chain {op op' : CmpOp} {p q : Int → Int → Bool} (ho : OpR X (compareOp op) (rI0 fun i j => .bl (p i j))) (ho' : OpR X (compareOp op') (rI0 fun i j => .bl (q i j))) (ha : FE X W a f1) (hb : FE X W b f2) (hc : FE X W c f3)
    (hm : lastMarks [op, op'] [b, c] = false := by with_unfolding_all rfl) : FE X W (.Compare a [op, op'] [b, c] pos) (mChain p q f1 f2 f3) := pe_imp (pe_chain ho ho' ha hb hc hm) chain_step
theorem ft_chain {op op' : CmpOp} {p q : Int → Int → Bool} (ho : OpR X (compareOp op) (rI0 fun i j => .bl (p i j))) (ho' : OpR X (compareOp op') (rI0 fun i j => .bl (q i j))) (ha : FE X W a f1) (hb : FE X W b f2) (hc : FE X W c f3)
    (hm : lastMarks [op, op'] [b, c] = false := by with_unfolding_all rfl) : FT X W (.Compare a [op, op'] [b, c] pos) (mTest (mChain p q f1 f2 f3)) := pt_imp (pt_chain ho ho' ha hb hc hm) (test_step chain_step)

/-! ### lists of values -/
def mFrz (f : Sx → Res AV) : Sx → Res AV := mUn frz f
theorem FE.frz (h : FE X W a f1) : FE X W a (mFrz f1) := pe_imp h fun σ H Q ⟨fx, stk, s, h, p⟩ =>
  ⟨fx, stk, s, h, (Post.bind p).mono (fun b s1 p v H1 h1 => by
    obtain ⟨c, s', e, q⟩ := Post.ofO p
    have h2 := h1.frz e
    exact q v H1 h2) fun _ _ x => x⟩
def mNil : Sx → Res (List AV) := fun s => .ok [] s
def mCons (f : Sx → Res AV) (g : Sx → Res (List AV)) : Sx → Res (List AV) := fun s => (f s).bind fun a s1 => (g s1).bind fun as s2 => .ok (a :: as) s2
variable {es : List Expr} {fs : Sx → Res (List AV)}
theorem fa_nil : FA X W [] mNil := pa_imp pa_nil fun σ H Q ⟨fx, stk, s, h, p⟩ => p [] H rfl h
theorem fa_cons (ha : FE X W a f1) (hr : FA X W es fs) (hs : starEach (a :: es) X.env = (false, eval a X.env) :: starEach es X.env := by rfl) : FA X W (a :: es) (mCons f1 fs) := pa_imp (pa_cons ha hr hs) fun σ H Q ⟨fx, stk, s, h, p⟩ =>
  ⟨fx, stk, s, h, (Post.bind p).mono (fun b s1 p v H1 h1 => ⟨fx, _, s1, h1, (Post.bind p).mono (fun bs s2 p ps H2 e h2 => p ((v, b) :: ps) H2 (by rw [List.map_cons, e]) (by rw [List.reverse_cons, List.append_assoc]; exact h2)) fun _ _ x => x.up⟩) fun _ _ x => x⟩
end
section
variable {G : Kx} {fx : Fx} {T : Addr → Tag} {μ : Nat → Addr} {stk : List (V × AV)} {s : Sx} {σ : L2.St} {H : Hp} {n : Nat}
theorem StkOk.mem : ∀ {stk : List (V × AV)}, StkOk G T μ σ H n stk → ∀ p ∈ stk, ∀ d, p.2 = .dat d → Dq G.K (dh T H) p.1 d
  | p :: r, h, q, hq, d, e => by
    rcases List.mem_cons.mp hq with z | hq
    · subst z
      have h1 := h.1
      rw [e] at h1; exact h1
    · exact StkOk.mem h.2 q hq d e
theorem dqAll_of {A : Hp} : ∀ {ps : List (V × AV)} {ds : List PyData}, (∀ p ∈ ps, ∀ d, p.2 = .dat d → Dq G.K A p.1 d) → ps.map (·.2) = ds.map AV.dat → DqAll G.K A (ps.map (·.1)) ds
  | [], [], _, _ => .nil
  | [], _ :: _, _, e => nomatch e
  | _ :: _, [], _, e => nomatch e
  | p :: r, d :: ds, h, e => by
    rw [List.map_cons, List.map_cons] at e
    injection e with e1 e2
    exact .cons (h p (List.mem_cons_self ..) d e1) (dqAll_of (fun q hq => h q (List.mem_cons_of_mem _ hq)) e2)
theorem R.drop {ps : List (V × AV)} (h : R G fx T μ (ps ++ stk) s σ H) : R G fx T μ stk s σ H := ⟨stk_low h.stk, h.len, h.env, h.sto, h.fr, h.B, h.n0, h.mu⟩
theorem Rel.drop {ps : List (V × AV)} (h : Rel G fx (ps ++ stk) s σ H) : Rel G fx stk s σ H := by
  obtain ⟨T, μ, h⟩ := h
  exact ⟨T, μ, h.drop⟩
/-- the data on top of the stack -/
def datA : List AV → Option (List PyData)
  | [] => some []
  | .dat d :: r => (datA r).map (d :: ·)
  | _ :: _ => none
theorem datA_some : ∀ {avs : List AV} {ds : List PyData}, datA avs = some ds → avs = ds.map AV.dat
  | [], ds, e => by cases e; rfl
  | .dat d :: r, ds, e => by
    obtain ⟨ds', e1, e2⟩ := Option.map_eq_some_iff.mp e
    subst e2
    rw [datA_some e1]; rfl
  | .own _ :: _, _, e => nomatch e
  | .pk _ :: _, _, e => nomatch e
  | .obj _ :: _, _, e => nomatch e
  | .scr _ :: _, _, e => nomatch e
theorem Rel.tops {ps : List (V × AV)} {ds : List PyData} (h : Rel G fx (ps.reverse ++ stk) s σ H) (e : datA (ps.map (·.2)) = some ds) : ∃ T μ, R G fx T μ stk s σ H ∧ DqAll G.K (dh T H) (ps.map (·.1)) ds := by
  obtain ⟨T, μ, h⟩ := h
  exact ⟨T, μ, h.drop, dqAll_of (fun p hp d e => h.stk.mem p (List.mem_append_left _ (List.mem_reverse.mpr hp)) d e) (datA_some e)⟩
end
section
variable {X : Cx} {W : WX} {pos : Pos} {es : List Expr} {fs : Sx → Res (List AV)}
def LIM : Nat := 16777216
theorem lim_eq : sizeLine = LIM := sizeLine_eq
def mTup (fs : Sx → Res (List AV)) : Sx → Res AV := fun s => (fs s).bind fun as s1 => match datA as with
  | some ds => if ds.length ≤ LIM then .ok (.dat (.tuple ds)) s1 else .stuck
  | none => .stuck
def mLst (fs : Sx → Res (List AV)) : Sx → Res AV := fun s => (fs s).bind fun as s1 => match datA as with
  | some ds => if ds.length ≤ LIM then .ok (.own ds) s1 else .stuck
  | none => .stuck
theorem dqAll_le_lim {K : PySem.W.Frag} {A : Hp} {vs : List V} {ds : List PyData} (q : DqAll K A vs ds) (h : ds.length ≤ LIM) : vs.length ≤ sizeLine := by
  rw [dqAll_len q, lim_eq]; exact h
theorem fe_tup {x1 : Nat} (h : FA X W es fs) : FE X W (.Tuple es x1 pos) (mTup fs) := pe_imp (pe_tup h) fun σ H Q ⟨fx, stk, s, h, p⟩ =>
  ⟨fx, stk, s, h, (Post.bind p).mono (fun as s1 p ps H1 e h1 => by
    cases ed : datA as with
    | none => rw [ed] at p; exact p.elim
    | some ds =>
      rw [ed] at p
      subst e
      obtain ⟨T, μ, h2, q⟩ := h1.tops ed
      by_cases hl : ds.length ≤ LIM
      · have p : Post (if ds.length ≤ LIM then Res.ok (AV.dat (.tuple ds)) s1 else .stuck) _ _ := p
        rw [if_pos hl] at p
        exact ⟨dqAll_le_lim q hl, fun a ha => p _ _ (Rel.newTup h2 ha q)⟩
      · have p : Post (if ds.length ≤ LIM then Res.ok (AV.dat (.tuple ds)) s1 else .stuck) _ _ := p
        rw [if_neg hl] at p
        exact p.elim) fun _ _ x => x⟩
theorem fe_lst (h : FA X W es fs) : FE X W (.List es pos) (mLst fs) := pe_imp (pe_lst h) fun σ H Q ⟨fx, stk, s, h, p⟩ =>
  ⟨fx, stk, s, h, (Post.bind p).mono (fun as s1 p ps H1 e h1 => by
    cases ed : datA as with
    | none => rw [ed] at p; exact p.elim
    | some ds =>
      rw [ed] at p
      subst e
      obtain ⟨T, μ, h2, q⟩ := h1.tops ed
      by_cases hl : ds.length ≤ LIM
      · have p : Post (if ds.length ≤ LIM then Res.ok (AV.own ds) s1 else .stuck) _ _ := p
        rw [if_pos hl] at p
        exact ⟨dqAll_le_lim q hl, fun a ha => p _ _ (Rel.newOwn h2 ha q)⟩
      · have p : Post (if ds.length ≤ LIM then Res.ok (AV.own ds) s1 else .stuck) _ _ := p
        rw [if_neg hl] at p
        exact p.elim) fun _ _ x => x⟩
end
end Fe

/-! Fe5: what is done with values. -/
namespace Fe
open PySem PySem.Spec PyProof.Rows L2

/-! ### looking at a value -/
def lookA (s : Sx) : AV → Option PyData
  | .dat d => some d
  | .own ds => some (.list ds)
  | .pk i => match s.env[i]? with
    | some (some (.own ds)) => some (.list ds)
    | some (some (.dat d)) => some d
    | _ => none
  | .obj l => match s.sto[l]? with
    | some (.lst xs) => (datA xs).map .list
    | _ => none
  | .scr _ => none
section
variable {G : Kx} {fx : Fx} {T : Addr → Tag} {μ : Nat → Addr} {stk : List (V × AV)} {s s' : Sx} {σ : L2.St} {H : Hp} {n : Nat} {v x y : V} {av a b c : AV} {t : Tag} {d e : PyData} {ds es : List PyData}
theorem dh_le : Le (dh T H) H := fun a o h => (dh_some.mp h).2
theorem dqAll_paired {A : Hp} : ∀ {vs : List V} {xs : List AV} {ds : List PyData}, Paired (RepF G T μ H n) vs xs → datA xs = some ds → DqAll G.K (dh T H) vs ds
  | [], [], _, _, e => by cases e; exact .nil
  | v :: vs, .dat d :: r, ds, h, e => by
    obtain ⟨ds', e1, e2⟩ := Option.map_eq_some_iff.mp e
    subst e2
    cases h with
    | cons h1 h2 => exact .cons h1 (dqAll_paired (A := A) h2 e1)
  | [], _ :: _, _, h, _ => nomatch h
  | _ :: _, [], _, h, _ => nomatch h
  | _ :: _, .own _ :: _, _, _, e => nomatch e
  | _ :: _, .pk _ :: _, _, _, e => nomatch e
  | _ :: _, .obj _ :: _, _, _, e => nomatch e
  | _ :: _, .scr _ :: _, _, _, e => nomatch e
theorem R.look (h : R G fx T μ stk s σ H) (hr : Rep G T μ σ H s.sto.length t v av) (e : lookA s av = some d) : Dq G.K H v d := by
  cases av with
  | dat d' => cases e; exact dq_le dh_le hr
  | own ds =>
    cases e
    obtain ⟨a, vs, rfl, _, h2, h3⟩ := hr
    exact .lst h2 (dqAll_le dh_le h3)
  | pk i =>
    have hv : σ[i]? = some (some v) := hr
    match he : s.env[i]? with
    | some (some (.own ds)) =>
      have e : (match s.env[i]? with | some (some (.own ds)) => some (PyData.list ds) | some (some (.dat d)) => some d | _ => none) = some d := e
      rw [he] at e
      cases e
      obtain ⟨_, v', e', a, vs, rfl, _, h2, h3⟩ := h.env i _ he
      rw [hv] at e'; cases e'
      exact .lst h2 (dqAll_le dh_le h3)
    | some (some (.dat d')) =>
      have e : (match s.env[i]? with | some (some (.own ds)) => some (PyData.list ds) | some (some (.dat d)) => some d | _ => none) = some d := e
      rw [he] at e
      cases e
      obtain ⟨_, v', e', q⟩ := h.env i _ he
      rw [hv] at e'; cases e'
      exact dq_le dh_le q
    | some (some (.obj l)) => have e : (match s.env[i]? with | some (some (.own ds)) => some (PyData.list ds) | some (some (.dat d)) => some d | _ => none) = some d := e; rw [he] at e; cases e
    | some (some (.scr l)) => have e : (match s.env[i]? with | some (some (.own ds)) => some (PyData.list ds) | some (some (.dat d)) => some d | _ => none) = some d := e; rw [he] at e; cases e
    | some (some (.pk l)) => have e : (match s.env[i]? with | some (some (.own ds)) => some (PyData.list ds) | some (some (.dat d)) => some d | _ => none) = some d := e; rw [he] at e; cases e
    | some none => have e : (match s.env[i]? with | some (some (.own ds)) => some (PyData.list ds) | some (some (.dat d)) => some d | _ => none) = some d := e; rw [he] at e; cases e
    | none => have e : (match s.env[i]? with | some (some (.own ds)) => some (PyData.list ds) | some (some (.dat d)) => some d | _ => none) = some d := e; rw [he] at e; cases e
  | obj l =>
    have e : (match s.sto[l]? with | some (.lst xs) => (datA xs).map PyData.list | _ => none) = some d := e
    match hs : s.sto[l]? with
    | some (.lst xs) =>
      rw [hs] at e
      obtain ⟨ds, e1, e2⟩ := Option.map_eq_some_iff.mp e
      subst e2
      obtain ⟨_, h2⟩ := h.sto l _ hs
      obtain ⟨o, ho⟩ := h2.some
      rw [ho] at h2
      cases o with
      | lst vs =>
        obtain ⟨_, rfl⟩ := hr
        exact .lst ho (dqAll_le dh_le (dqAll_paired (A := H) h2 e1))
      | _ => exact h2.elim
    | some (.dic _) => rw [hs] at e; cases e
    | some (.ins _ _) => rw [hs] at e; cases e
    | none => rw [hs] at e; cases e
  | scr ns => cases e
/-- the data stand on their own: what is read is copied into a new list, a new tuple -/
theorem R.lookL (h : R G fx T μ stk s σ H) (hr : Rep G T μ σ H s.sto.length t v av) (e : lookA s av = some (.list ds)) : ∃ l vs, v = .ref l ∧ H l = some (.lst vs) ∧ DqAll G.K (dh T H) vs ds := by
  cases av with
  | dat d' =>
    cases e
    cases (show Dq G.K (dh T H) v (.list ds) from hr) with
    | lst h1 h2 => exact ⟨_, _, rfl, dh_le _ _ h1, h2⟩
  | own ds =>
    cases e
    obtain ⟨a, vs, rfl, _, h2, h3⟩ := hr
    exact ⟨_, _, rfl, h2, h3⟩
  | pk i =>
    have hv : σ[i]? = some (some v) := hr
    have e : (match s.env[i]? with | some (some (.own ds)) => some (PyData.list ds) | some (some (.dat d)) => some d | _ => none) = some (.list ds) := e
    match he : s.env[i]? with
    | some (some (.own ds)) =>
      rw [he] at e
      cases e
      obtain ⟨_, v', e', a, vs, rfl, _, h2, h3⟩ := h.env i _ he
      rw [hv] at e'; cases e'
      exact ⟨_, _, rfl, h2, h3⟩
    | some (some (.dat d')) =>
      rw [he] at e
      cases e
      obtain ⟨_, v', e', q⟩ := h.env i _ he
      rw [hv] at e'; cases e'
      cases (show Dq G.K (dh T H) v (.list ds) from q) with
      | lst h1 h2 => exact ⟨_, _, rfl, dh_le _ _ h1, h2⟩
    | some (some (.obj l)) => rw [he] at e; cases e
    | some (some (.scr l)) => rw [he] at e; cases e
    | some (some (.pk l)) => rw [he] at e; cases e
    | some none => rw [he] at e; cases e
    | none => rw [he] at e; cases e
  | obj l =>
    have e : (match s.sto[l]? with | some (.lst xs) => (datA xs).map PyData.list | _ => none) = some (.list ds) := e
    match hs : s.sto[l]? with
    | some (.lst xs) =>
      rw [hs] at e
      obtain ⟨ds, e1, e2⟩ := Option.map_eq_some_iff.mp e
      cases e2
      obtain ⟨_, h2⟩ := h.sto l _ hs
      obtain ⟨o, ho⟩ := h2.some
      rw [ho] at h2
      cases o with
      | lst vs =>
        obtain ⟨_, rfl⟩ := hr
        exact ⟨_, _, rfl, ho, dqAll_paired (A := H) h2 e1⟩
      | _ => exact h2.elim
    | some (.dic _) => rw [hs] at e; cases e
    | some (.ins _ _) => rw [hs] at e; cases e
    | none => rw [hs] at e; cases e
  | scr ns => cases e
/-- a tuple is always data -/
theorem R.lookT (h : R G fx T μ stk s σ H) (hr : Rep G T μ σ H s.sto.length t v av) (e : lookA s av = some (.tuple ds)) : ∃ l vs, v = .ref l ∧ SqT G.K (dh T H) l vs ∧ DqAll G.K (dh T H) vs ds := by
  have key : ∀ {v}, Dq G.K (dh T H) v (.tuple ds) → ∃ l vs, v = .ref l ∧ SqT G.K (dh T H) l vs ∧ DqAll G.K (dh T H) vs ds := fun {v} q => by
    cases q with
    | tup h1 h2 => exact ⟨_, _, rfl, h1, h2⟩
  cases av with
  | dat d' => cases e; exact key hr
  | own ds => cases e
  | pk i =>
    have hv : σ[i]? = some (some v) := hr
    have e : (match s.env[i]? with | some (some (.own ds)) => some (PyData.list ds) | some (some (.dat d)) => some d | _ => none) = some (.tuple ds) := e
    match he : s.env[i]? with
    | some (some (.own ds)) => rw [he] at e; cases e
    | some (some (.dat d')) =>
      rw [he] at e
      cases e
      obtain ⟨_, v', e', q⟩ := h.env i _ he
      rw [hv] at e'; cases e'
      exact key q
    | some (some (.obj l)) => rw [he] at e; cases e
    | some (some (.scr l)) => rw [he] at e; cases e
    | some (some (.pk l)) => rw [he] at e; cases e
    | some none => rw [he] at e; cases e
    | none => rw [he] at e; cases e
  | obj l =>
    have e : (match s.sto[l]? with | some (.lst xs) => (datA xs).map PyData.list | _ => none) = some (.tuple ds) := e
    match hs : s.sto[l]? with
    | some (.lst xs) =>
      rw [hs] at e
      obtain ⟨ds, e1, e2⟩ := Option.map_eq_some_iff.mp e
      cases e2
    | some (.dic _) => rw [hs] at e; cases e
    | some (.ins _ _) => rw [hs] at e; cases e
    | none => rw [hs] at e; cases e
  | scr ns => cases e
/-- the one item a list's or a tuple's: data -/
def lookQ (s : Sx) (av : AV) : Option (List PyData) := match lookA s av with
  | some (.list ds) => some ds
  | some (.tuple ds) => some ds
  | _ => none
theorem R.lookQ (h : R G fx T μ stk s σ H) (hr : Rep G T μ σ H s.sto.length t v av) (e : Fe.lookQ s av = some ds) : ∃ l vs, v = .ref l ∧ (H l = some (.lst vs) ∨ SqT G.K (dh T H) l vs) ∧ DqAll G.K (dh T H) vs ds := by
  unfold Fe.lookQ at e
  split at e
  · rename_i ds' e'
    cases e
    obtain ⟨l, vs, e1, e2, e3⟩ := h.lookL hr e'
    exact ⟨l, vs, e1, .inl e2, e3⟩
  · rename_i ds' e'
    cases e
    obtain ⟨l, vs, e1, e2, e3⟩ := h.lookT hr e'
    exact ⟨l, vs, e1, .inr e2, e3⟩
  · cases e
def asIA (s : Sx) (av : AV) : Option Int := match lookA s av with
  | some (.int i) => some i
  | _ => none
theorem R.int (h : R G fx T μ stk s σ H) (hr : Rep G T μ σ H s.sto.length t v av) {i : Int} (e : lookA s av = some (.int i)) : v = .int i := by
  cases h.look hr e with
  | int _ => rfl

/-! ### two-place operations on ints -/
def gI (C : Int → Int → Bool) (f : Int → Int → PyData) : AV → AV → Sx → Option (AV × Sx) := fun a b s => match a, b with
  | .dat (.int i), .dat (.int j) => if C i j = true then some (.dat (f i j), s) else none
  | _, _ => none
theorem gI_some {C : Int → Int → Bool} {f : Int → Int → PyData} (e : gI C f a b s = some (c, s')) : ∃ i j, a = .dat (.int i) ∧ b = .dat (.int j) ∧ C i j = true ∧ c = .dat (f i j) ∧ s' = s := by
  unfold gI at e
  split at e
  · split at e
    · rename_i i j hc
      cases e
      exact ⟨i, j, rfl, rfl, hc, rfl, rfl⟩
    · cases e
  · cases e
theorem v2_I {C : Int → Int → Bool} {P : Int → Int → Prop} {f : Int → Int → PyData} {g : Int → Int → V} (hP : ∀ i j, C i j = true → P i j) (hd : ∀ i j A, Dq G.K A (g i j) (f i j)) : V2 G (rI P g) (gI C f) := fun fx stk s σ H x a y b h c s' e Q q => by
  obtain ⟨i, j, rfl, rfl, hc, rfl, rfl⟩ := gI_some e
  exact ⟨i, j, h.pop.intV, h.intV, hP i j hc, q _ _ (h.pop.pop.scal (hd i j))⟩
theorem v2_I0 {f : Int → Int → PyData} {g : Int → Int → V} (hd : ∀ i j A, Dq G.K A (g i j) (f i j)) : V2 G (rI0 g) (gI (fun _ _ => true) f) := fun fx stk s σ H x a y b h c s' e Q q => by
  obtain ⟨i, j, rfl, rfl, hc, rfl, rfl⟩ := gI_some e
  exact ⟨i, j, h.pop.intV, h.intV, q _ _ (h.pop.pop.scal (hd i j))⟩
def cT : Int → Int → Bool := fun _ _ => true
abbrev gAddI := gI (fun _ _ => true) fun i j => .int (i + j)
abbrev gSub := gI (fun _ _ => true) fun i j => .int (i - j)
abbrev gMod := gI (fun _ j => decide (0 < j)) fun i j => .int (i % j)
abbrev gAnd := gI (fun _ _ => true) fun i j => .int (Builtin.bitAnd i j)
abbrev gXor := gI (fun _ _ => true) fun i j => .int (Builtin.bitXor i j)
abbrev gLt := gI (fun _ _ => true) fun i j => .bool (decide (i < j))
abbrev gLe := gI (fun _ _ => true) fun i j => .bool (decide (i ≤ j))
abbrev gGt := gI (fun _ _ => true) fun i j => .bool (decide (j < i))
abbrev gGe := gI (fun _ _ => true) fun i j => .bool (decide (j ≤ i))
theorem v2_addI : V2 G (rI0 fun i j => .int (i + j)) gAddI := v2_I0 fun _ _ _ => .int _
theorem v2_sub : V2 G (rI0 fun i j => .int (i - j)) gSub := v2_I0 fun _ _ _ => .int _
theorem v2_mod : V2 G (rI (fun _ j => 0 < j) fun i j => .int (i % j)) gMod := v2_I (fun _ _ h => of_decide_eq_true h) fun _ _ _ => .int _
theorem v2_and : V2 G (rI0 fun i j => .int (Builtin.bitAnd i j)) gAnd := v2_I0 fun _ _ _ => .int _
theorem v2_xor : V2 G (rI0 fun i j => .int (Builtin.bitXor i j)) gXor := v2_I0 fun _ _ _ => .int _
theorem v2_lt : V2 G (rI0 fun i j => .bl (decide (i < j))) gLt := v2_I0 fun _ _ _ => .bl _
theorem v2_le : V2 G (rI0 fun i j => .bl (decide (i ≤ j))) gLe := v2_I0 fun _ _ _ => .bl _
theorem v2_gt : V2 G (rI0 fun i j => .bl (decide (j < i))) gGt := v2_I0 fun _ _ _ => .bl _
theorem v2_ge : V2 G (rI0 fun i j => .bl (decide (j ≤ i))) gGe := v2_I0 fun _ _ _ => .bl _
/-- powers of written size -/
def cPow : Int → Int → Bool := fun i j => decide (0 ≤ j) && decide (j ≤ 1000000) && decide (i.natAbs < 2 ^ 64)
abbrev gPow := gI cPow fun i j => .int (i ^ j.toNat)
theorem v2_pow : V2 G (rI CPow fun i j => .int (i ^ j.toNat)) gPow := v2_I (fun i j h => by
  unfold cPow at h
  simp only [Bool.and_eq_true, decide_eq_true_eq] at h
  exact ⟨h.1.1, h.1.2, h.2⟩) fun _ _ _ => .int _
end
end Fe

/-! Fe6: products, sums of lists and tuples, equality, items, slices, calls of built-ins, methods of lists. -/
namespace Fe
open PySem PySem.Spec PyProof.Rows L2
section
variable {G : Kx} {fx : Fx} {T : Addr → Tag} {μ : Nat → Addr} {stk : List (V × AV)} {s s' : Sx} {σ : L2.St} {H : Hp} {n : Nat} {v x y : V} {av a b c : AV} {t : Tag} {d e : PyData} {ds es : List PyData}
def mulOk (i j : Int) : Bool := decide (i.natAbs < 2 ^ 64) || (decide (j.natAbs < 2 ^ 64) || decide (i.natAbs.log2 + j.natAbs.log2 < 1000000))
def CMulA (i j : Int) : Prop := CMul i j ∨ CMulW i j
theorem mulOk_of {i j : Int} (h : mulOk i j = true) : CMulA i j := by
  unfold mulOk at h
  simp only [Bool.or_eq_true, decide_eq_true_eq] at h
  rcases h with h | h | h
  · exact .inl (.inl ⟨by omega, by omega⟩)
  · exact .inl (.inr ⟨by omega, by omega⟩)
  · exact .inr h
theorem op_mulA {X : Cx} : OpR X (binaryOp .Mult) (rI CMulA fun i j => .int (i * j)) := opI fun _ _ _ _ _ _ _ hc q => mul_int q (hc.elim (fun h => h.ok) fun h => h.ok)
def divOk (j : Int) : Bool := decide (0 < j) && decide (j.natAbs.log2 < 9000)
abbrev gMulI := gI mulOk fun i j => .int (i * j)
abbrev gDiv := gI (fun _ j => divOk j) fun i j => .int (i / j)
theorem v2_mulI : V2 G (rI CMulA fun i j => .int (i * j)) gMulI := v2_I (fun i j h => mulOk_of h) fun _ _ _ => .int _
theorem v2_div : V2 G (rI CDivW fun i j => .int (i / j)) gDiv := v2_I (fun _ j h => by
  unfold divOk at h
  simp only [Bool.and_eq_true, decide_eq_true_eq] at h
  exact h) fun _ _ _ => .int _
/-- texts -/
def gAddS : AV → AV → Sx → Option (AV × Sx) := fun a b s => match a, b with
  | .dat (.str i), .dat (.str j) => if i.length + j.length ≤ LIM then some (.dat (.str (i ++ j)), s) else none
  | _, _ => none
theorem v2_addS : V2 G (fun x y H Q => ∃ i j, x = .str i ∧ y = .str j ∧ i.length + j.length ≤ sizeLine ∧ Q (.str (i ++ j)) H) gAddS := fun fx stk s σ H x a y b h c s' e Q q => by
  unfold gAddS at e
  split at e
  · split at e
    · rename_i i j hc
      cases e
      exact ⟨i, j, h.pop.strV, h.strV, by rw [lim_eq]; exact hc, q _ _ (h.pop.pop.scal fun _ => .str _)⟩
    · cases e
  · cases e
/-- lists: a new one -/
def gCatL : AV → AV → Sx → Option (AV × Sx) := fun a b s => match lookA s a, lookA s b with
  | some (.list ds), some (.list es) => if ds.length + es.length ≤ LIM then some (.own (ds ++ es), s) else none
  | _, _ => none
theorem dq_ll {vs ws : List V} {A : Hp} (q : DqAll G.K A vs ds) (r : DqAll G.K A ws es) (h : ds.length + es.length ≤ LIM) : vs.length + ws.length ≤ sizeLine := by
  rw [dqAll_len q, dqAll_len r, lim_eq]; exact h
theorem v2_catL : V2 G rCat gCatL := fun fx stk s σ H x a y b h c s' e Q q => by
  unfold gCatL at e
  split at e
  · rename_i ds es e1 e2
    split at e
    · rename_i hc
      cases e
      obtain ⟨T, μ, h⟩ := h
      obtain ⟨l1, vs, rfl, q1, q2⟩ := h.lookL h.stk.2.1 e1
      obtain ⟨l2, ws, rfl, q3, q4⟩ := h.lookL h.stk.1 e2
      exact ⟨l1, l2, vs, ws, rfl, rfl, q1, q3, dq_ll q2 q4 hc, fun p hp => q _ _ (Rel.newOwn h.pop.pop hp (dqAll_append q2 q4))⟩
    · cases e
  · cases e
/-- tuples -/
def gCatT : AV → AV → Sx → Option (AV × Sx) := fun a b s => match lookA s a, lookA s b with
  | some (.tuple ds), some (.tuple es) => if ds.length + es.length ≤ LIM then some (.dat (.tuple (ds ++ es)), s) else none
  | _, _ => none
theorem v2_catT : V2 G (rCatA G.K) gCatT := fun fx stk s σ H x a y b h c s' e Q q => by
  unfold gCatT at e
  split at e
  · rename_i ds es e1 e2
    split at e
    · rename_i hc
      cases e
      obtain ⟨T, μ, h⟩ := h
      obtain ⟨l1, vs, rfl, q1, q2⟩ := h.lookT h.stk.2.1 e1
      obtain ⟨l2, ws, rfl, q3, q4⟩ := h.lookT h.stk.1 e2
      refine ⟨l1, l2, vs, ws, rfl, rfl, dh_le.sqT q1, dh_le.sqT q3, dq_ll q2 q4 hc, fun z => ?_, fun _ z => ?_, fun _ _ p hp => q _ _ (Rel.newTup h.pop.pop hp (dqAll_append q2 q4))⟩
      · subst z
        cases q2
        exact q _ _ ⟨T, μ, h.pop.pop.push (Dq.tup q3 (by rw [List.nil_append]; exact q4))⟩
      · subst z
        cases q4
        exact q _ _ ⟨T, μ, h.pop.pop.push (Dq.tup q1 (by rw [List.append_nil]; exact q2))⟩
    · cases e
  · cases e
abbrev gAdd := orG gAddI (orG gCatT (orG gCatL gAddS))
def rAddA (K : PySem.W.Frag) : R2 := fun x y H Q => rI0 (fun i j => .int (i + j)) x y H Q ∨ (rCatA K x y H Q ∨ (rCat x y H Q ∨ ∃ i j, x = .str i ∧ y = .str j ∧ i.length + j.length ≤ sizeLine ∧ Q (.str (i ++ j)) H))
theorem v2_add : V2 G (rAddA G.K) gAdd := v2_addI.or (v2_catT.or (v2_catL.or v2_addS))
theorem op_addA {X : Cx} : OpR X (binaryOp .Add) (rAddA X.K) := op_add.or (op_catA.or (op_cat.or op_add_str))
/-- a list so often -/
def gRepL : AV → AV → Sx → Option (AV × Sx) := fun a b s => match lookA s a, b with
  | some (.list ds), .dat (.int k) => if k < 2 ^ 62 ∧ -(2 ^ 62) < k ∧ ds.length * k.toNat ≤ LIM then some (.own (List.replicate k.toNat ds).flatten, s) else none
  | _, _ => none
theorem v2_repL : V2 G rRep gRepL := fun fx stk s σ H x a y b h c s' e Q q => by
  unfold gRepL at e
  split at e
  · rename_i ds k e1
    split at e
    · rename_i hc
      cases e
      have hy := h.intV
      obtain ⟨T, μ, h⟩ := h
      obtain ⟨l1, vs, rfl, q1, q2⟩ := h.lookL h.stk.2.1 e1
      exact ⟨l1, k, vs, rfl, hy, q1, by omega, by omega, by rw [dqAll_len q2, lim_eq]; exact hc.2.2, fun p hp => q _ _ (Rel.newOwn h.pop.pop hp (dqAll_rep q2 _))⟩
    · cases e
  · cases e
def gRepT : AV → AV → Sx → Option (AV × Sx) := fun a b s => match lookA s a, b with
  | some (.tuple ds), .dat (.int k) => if ds ≠ [] ∧ 2 ≤ k ∧ k ≤ 1000 ∧ ds.length ≤ 1000 then some (.dat (.tuple (List.replicate k.toNat ds).flatten), s) else none
  | _, _ => none
theorem v2_repT : V2 G (rRepT G.K) gRepT := fun fx stk s σ H x a y b h c s' e Q q => by
  unfold gRepT at e
  split at e
  · rename_i ds k e1
    split at e
    · rename_i hc
      cases e
      have hy := h.intV
      obtain ⟨T, μ, h⟩ := h
      obtain ⟨l1, vs, rfl, q1, q2⟩ := h.lookT h.stk.2.1 e1
      refine ⟨l1, k, vs, rfl, hy, dh_le.sqT q1, fun z => ?_, hc.2.1, hc.2.2.1, by rw [dqAll_len q2]; exact hc.2.2.2, fun p hp => q _ _ (Rel.newTup h.pop.pop hp (dqAll_rep q2 _))⟩
      subst z
      cases q2
      exact hc.1 rfl
    · cases e
  · cases e

/-! ### equality of data -/
def rEqQ (K : PySem.W.Frag) : R2 := fun x y H Q => ∃ d e, Dq K H x d ∧ Dq K H y e ∧ SeqAt.shaped d = true ∧ SeqAt.shaped e = true ∧ Q (.bl (PyData.eqv d e)) H
def rNeQ (K : PySem.W.Frag) : R2 := fun x y H Q => ∃ d e, Dq K H x d ∧ Dq K H y e ∧ SeqAt.shaped d = true ∧ SeqAt.shaped e = true ∧ Q (.bl (!PyData.eqv d e)) H
theorem op_eqQ {X : Cx} (hu : X.A.units + 64 < cLine) : OpR X (compareOp .Eq) (rEqQ X.K) := by
  intro pins s σ H x y v u Q I rx ry h
  obtain ⟨d, e, hd, he, sd, se, q⟩ := h
  obtain ⟨as, r1⟩ := Dq.reads I d x v hd rx
  obtain ⟨bs, r2⟩ := Dq.reads I e y u he ry
  exact SeqAt.compareEq_shaped r1 r2 sd se hu ⟨.bl _, H, I, rfl, q⟩
theorem op_neQ {X : Cx} (hu : X.A.units + 64 < cLine) : OpR X (compareOp .NotEq) (rNeQ X.K) := by
  intro pins s σ H x y v u Q I rx ry h
  obtain ⟨d, e, hd, he, sd, se, q⟩ := h
  obtain ⟨as, r1⟩ := Dq.reads I d x v hd rx
  obtain ⟨bs, r2⟩ := Dq.reads I e y u he ry
  exact SeqAt.compareNe_shaped r1 r2 sd se hu ⟨.bl _, H, I, rfl, q⟩
def gEq : AV → AV → Sx → Option (AV × Sx) := fun a b s => match lookA s a, lookA s b with
  | some d, some e => if SeqAt.shaped d = true ∧ SeqAt.shaped e = true then some (.dat (.bool (PyData.eqv d e)), s) else none
  | _, _ => none
def gNe : AV → AV → Sx → Option (AV × Sx) := fun a b s => match lookA s a, lookA s b with
  | some d, some e => if SeqAt.shaped d = true ∧ SeqAt.shaped e = true then some (.dat (.bool (!PyData.eqv d e)), s) else none
  | _, _ => none
theorem v2_eq : V2 G (rEqQ G.K) gEq := fun fx stk s σ H x a y b h c s' e Q q => by
  unfold gEq at e
  split at e
  · rename_i d e' e1 e2
    split at e
    · rename_i hc
      cases e
      have q' := q (.bl (PyData.eqv d e')) H (h.pop.pop.scal fun _ => .bl _)
      obtain ⟨T, μ, h⟩ := h
      exact ⟨d, e', h.look h.stk.2.1 e1, h.look h.stk.1 e2, hc.1, hc.2, q'⟩
    · cases e
  · cases e
theorem v2_ne : V2 G (rNeQ G.K) gNe := fun fx stk s σ H x a y b h c s' e Q q => by
  unfold gNe at e
  split at e
  · rename_i d e' e1 e2
    split at e
    · rename_i hc
      cases e
      have q' := q (.bl (!PyData.eqv d e')) H (h.pop.pop.scal fun _ => .bl _)
      obtain ⟨T, μ, h⟩ := h
      exact ⟨d, e', h.look h.stk.2.1 e1, h.look h.stk.1 e2, hc.1, hc.2, q'⟩
    · cases e
  · cases e
/-- is None -/
def isNone : PyData → Bool
  | .none => true
  | _ => false
def gIsN : AV → AV → Sx → Option (AV × Sx) := fun a b s => match a, b with
  | .dat d, .dat .none => some (.dat (.bool (isNone d)), s)
  | .own _, .dat .none => some (.dat (.bool false), s)
  | .obj _, .dat .none => some (.dat (.bool false), s)
  | _, _ => none
def gNotN : AV → AV → Sx → Option (AV × Sx) := fun a b s => match a, b with
  | .dat d, .dat .none => some (.dat (.bool (!isNone d)), s)
  | .own _, .dat .none => some (.dat (.bool true), s)
  | .obj _, .dat .none => some (.dat (.bool true), s)
  | _, _ => none
theorem dq_isN {K : PySem.W.Frag} {A : Hp} (q : Dq K A x d) : decide (x = .non) = isNone d := by
  cases q <;> first | rfl | exact decide_eq_false (fun z => nomatch z)
theorem v2_isN : V2 G (fun x y H Q => y = .non ∧ Q (.bl (decide (x = .non))) H) gIsN := fun fx stk s σ H x a y b h c s' e Q q => by
  unfold gIsN at e
  split at e
  · rename_i d
    cases e
    refine ⟨h.nonV, ?_⟩
    obtain ⟨T, μ, h⟩ := h
    rw [dq_isN (show Dq G.K (dh T H) x d from h.stk.2.1)]
    exact q _ _ ⟨T, μ, h.pop.pop.push (Dq.bl _)⟩
  · cases e
    refine ⟨h.nonV, ?_⟩
    obtain ⟨T, μ, h⟩ := h
    obtain ⟨l, vs, rfl, _⟩ := h.stk.2.1
    exact q _ _ ⟨T, μ, h.pop.pop.push (Dq.bl _)⟩
  · cases e
    refine ⟨h.nonV, ?_⟩
    obtain ⟨T, μ, h⟩ := h
    obtain ⟨_, rfl⟩ := h.stk.2.1
    exact q _ _ ⟨T, μ, h.pop.pop.push (Dq.bl _)⟩
  · cases e
theorem v2_notN : V2 G (fun x y H Q => y = .non ∧ Q (.bl (!decide (x = .non))) H) gNotN := fun fx stk s σ H x a y b h c s' e Q q => by
  unfold gNotN at e
  split at e
  · rename_i d
    cases e
    refine ⟨h.nonV, ?_⟩
    obtain ⟨T, μ, h⟩ := h
    rw [dq_isN (show Dq G.K (dh T H) x d from h.stk.2.1)]
    exact q _ _ ⟨T, μ, h.pop.pop.push (Dq.bl _)⟩
  · cases e
    refine ⟨h.nonV, ?_⟩
    obtain ⟨T, μ, h⟩ := h
    obtain ⟨l, vs, rfl, _⟩ := h.stk.2.1
    exact q _ _ ⟨T, μ, h.pop.pop.push (Dq.bl _)⟩
  · cases e
    refine ⟨h.nonV, ?_⟩
    obtain ⟨T, μ, h⟩ := h
    obtain ⟨_, rfl⟩ := h.stk.2.1
    exact q _ _ ⟨T, μ, h.pop.pop.push (Dq.bl _)⟩
  · cases e
/-- in, not in: a list's or a tuple's items -/
def rInQ (K : PySem.W.Frag) : R2 := fun x y H Q => ∃ d ds, Dq K H x d ∧ (Dq K H y (.list ds) ∨ Dq K H y (.tuple ds)) ∧ SeqAt.shaped d = true ∧ PyData.canLayAll0 ds = true ∧ Q (.bl (ds.any fun z => PyData.eqv z d)) H
def rNotInQ (K : PySem.W.Frag) : R2 := fun x y H Q => ∃ d ds, Dq K H x d ∧ (Dq K H y (.list ds) ∨ Dq K H y (.tuple ds)) ∧ SeqAt.shaped d = true ∧ PyData.canLayAll0 ds = true ∧ Q (.bl (!ds.any fun z => PyData.eqv z d)) H
theorem op_inQ {X : Cx} (hu : X.A.units + 65 < cLine) : OpR X (compareOp .In) (rInQ X.K) := by
  intro pins s σ H x y v u Q I rx ry h
  obtain ⟨d, ds, hd, he, sd, se, q⟩ := h
  obtain ⟨as, r1⟩ := Dq.reads I d x v hd rx
  rcases he with he | he
  · obtain ⟨bs, r2⟩ := Dq.reads I (.list ds) y u he ry
    exact SeqAt.in_list_reads r2 r1 se (SeqAt.canLay_of_shaped sd) (room_in_shaped sd hu) ⟨.bl _, H, I, rfl, q⟩
  · obtain ⟨bs, r2⟩ := Dq.reads I (.tuple ds) y u he ry
    exact SeqAt.in_tuple_reads r2 r1 se (SeqAt.canLay_of_shaped sd) (room_in_shaped sd hu) ⟨.bl _, H, I, rfl, q⟩
theorem op_notInQ {X : Cx} (hu : X.A.units + 65 < cLine) : OpR X (compareOp .NotIn) (rNotInQ X.K) := by
  intro pins s σ H x y v u Q I rx ry h
  obtain ⟨d, ds, hd, he, sd, se, q⟩ := h
  obtain ⟨as, r1⟩ := Dq.reads I d x v hd rx
  rcases he with he | he
  · obtain ⟨bs, r2⟩ := Dq.reads I (.list ds) y u he ry
    exact SeqAt.notIn_list_reads r2 r1 se (SeqAt.canLay_of_shaped sd) (room_in_shaped sd hu) ⟨.bl _, H, I, rfl, q⟩
  · obtain ⟨bs, r2⟩ := Dq.reads I (.tuple ds) y u he ry
    exact SeqAt.notIn_tuple_reads r2 r1 se (SeqAt.canLay_of_shaped sd) (room_in_shaped sd hu) ⟨.bl _, H, I, rfl, q⟩
def gIn (neg : Bool) : AV → AV → Sx → Option (AV × Sx) := fun a b s => match lookA s a, lookQ s b with
  | some d, some ds => if SeqAt.shaped d = true ∧ PyData.canLayAll0 ds = true then some (.dat (.bool (if neg = true then !ds.any fun z => PyData.eqv z d else ds.any fun z => PyData.eqv z d)), s) else none
  | _, _ => none
theorem R.lookQd (h : R G fx T μ stk s σ H) (hr : Rep G T μ σ H s.sto.length t v av) (e : Fe.lookQ s av = some ds) : Dq G.K H v (.list ds) ∨ Dq G.K H v (.tuple ds) := by
  unfold Fe.lookQ at e
  split at e
  · rename_i ds' e'
    cases e
    exact .inl (h.look hr e')
  · rename_i ds' e'
    cases e
    exact .inr (h.look hr e')
  · cases e
theorem v2_in : V2 G (rInQ G.K) (gIn false) := fun fx stk s σ H x a y b h c s' e Q q => by
  unfold gIn at e
  split at e
  · rename_i d ds e1 e2
    split at e
    · rename_i hc
      cases e
      have q' := q _ H (h.pop.pop.scal fun _ => .bl _)
      obtain ⟨T, μ, h⟩ := h
      exact ⟨d, ds, h.look h.stk.2.1 e1, h.lookQd h.stk.1 e2, hc.1, hc.2, q'⟩
    · cases e
  · cases e
theorem v2_notIn : V2 G (rNotInQ G.K) (gIn true) := fun fx stk s σ H x a y b h c s' e Q q => by
  unfold gIn at e
  split at e
  · rename_i d ds e1 e2
    split at e
    · rename_i hc
      cases e
      have q' := q _ H (h.pop.pop.scal fun _ => .bl _)
      obtain ⟨T, μ, h⟩ := h
      exact ⟨d, ds, h.look h.stk.2.1 e1, h.lookQd h.stk.1 e2, hc.1, hc.2, q'⟩
    · cases e
  · cases e
/-- minus -/
def gNeg : AV → Sx → Option (AV × Sx) := fun a s => match a with
  | .dat (.int i) => some (.dat (.int (-i)), s)
  | _ => none
theorem v1_neg : V1 G (rU fun i => .int (-i)) gNeg := fun fx stk s σ H x a h c s' e Q q => by
  unfold gNeg at e
  split at e
  · rename_i i
    cases e
    exact ⟨i, h.intV, q _ _ (h.pop.scal fun _ => .int _)⟩
  · cases e

/-! ### items and slices -/
def gIx : AV → AV → Sx → Option (AV × Sx) := fun a b s => match lookQ s a, b with
  | some ds, .dat (.int i) => (atI ds i).map fun d => (.dat d, s)
  | _, _ => none
theorem atI_dq {A : Hp} {vs : List V} (q : DqAll G.K A vs ds) {i : Int} (e : atI ds i = some d) : ∃ v, atI vs i = some v ∧ Dq G.K A v d := by
  unfold atI at e ⊢
  rw [dqAll_len q]
  cases hj : ixN ds.length i with
  | none => rw [hj] at e; cases e
  | some j =>
    rw [hj] at e
    exact dqAll_at q e
theorem v2_ix : V2 G (fun x y H Q => rIxL G.K x y H Q ∨ rIxT G.K x y H Q) gIx := fun fx stk s σ H x a y b h c s' e Q q => by
  unfold gIx at e
  split at e
  · rename_i ds i e1
    obtain ⟨d, e2, e3⟩ := Option.map_eq_some_iff.mp e
    cases e3
    have hy := h.intV
    obtain ⟨T, μ, h⟩ := h
    obtain ⟨l, vs, rfl, q1, q2⟩ := h.lookQ h.stk.2.1 e1
    obtain ⟨w, q3, q4⟩ := atI_dq q2 e2
    have q' := q w H ⟨T, μ, h.pop.pop.push q4⟩
    rcases q1 with q1 | q1
    · exact .inl ⟨l, vs, i, w, rfl, hy, SqL.of q1, q3, q'⟩
    · exact .inr ⟨l, vs, i, w, rfl, hy, dh_le.sqT q1, q3, q'⟩
  · cases e
end
/-- a bound of a slice -/
def tOOf (G : Kx) (W : WX) (f : Sx → Res (Option Int)) : TO := fun σ H Q => ∃ fx stk s, Rel G fx stk s σ H ∧ Post (f s) (fun o s' => ∀ H', Rel G fx stk s' σ H' → Q o H') (Xw G W fx stk σ)
def FO (X : Cx) (W : WX) (e : Option Expr) (f : Sx → Res (Option Int)) : Prop := PO X e (tOOf (gx X) W f)
theorem po_imp {X : Cx} {e : Option Expr} {t t' : TO} (h : PO X e t) (i : ∀ σ H Q, t' σ H Q → t σ H Q) : PO X e t' := ⟨fun pins s σ H Q I q => h.run pins s σ H Q I (i _ _ _ q)⟩
def mO0 : Sx → Res (Option Int) := fun s => .ok none s
def mO (f : Sx → Res AV) : Sx → Res (Option Int) := fun s => (f s).bind fun a s1 => match asI a with | some i => .ok (some i) s1 | none => .stuck
def cutD (xs : List PyData) (lo hi : Option Int) : List PyData := (xs.drop (HT.sIx xs.length 0 lo)).take (HT.sIx xs.length xs.length hi - HT.sIx xs.length 0 lo)
def gSl (a : AV) (lo hi : Option Int) (s : Sx) : Option (AV × Sx) := match lookA s a with
  | some (.list ds) => some (.own (cutD ds lo hi), s)
  | some (.tuple ds) => some (.dat (.tuple (cutD ds lo hi)), s)
  | _ => match a with
    | .scr ns => some (.own ((ns.drop (HT.sIx ns.length 0 lo)).take (HT.sIx ns.length ns.length hi - HT.sIx ns.length 0 lo) |>.map .int), s)
    | _ => none
def mSl (f : Sx → Res AV) (l h : Sx → Res (Option Int)) : Sx → Res AV := fun s => (f s).bind fun a s1 => (l s1).bind fun lo s2 => (h s2).bind fun hi s3 => ofO (gSl a lo hi s3)
section
variable {X : Cx} {W : WX} {a b c e : Expr} {pos p2 : Pos} {f f1 f2 f3 : Sx → Res AV} {lo hi : Option Expr} {ml mh : Sx → Res (Option Int)}
theorem fo_none : FO X W none mO0 := po_imp po_none fun σ H Q ⟨fx, stk, s, h, p⟩ => p H h
theorem fo_some (he : FE X W e f) : FO X W (some e) (mO f) := po_imp (po_some he) fun σ H Q ⟨fx, stk, s, h, p⟩ =>
  ⟨fx, stk, s, h, (Post.bind p).mono (fun a s1 p v H1 h1 => by
    cases ea : asI a with
    | none => rw [ea] at p; exact p.elim
    | some i =>
      rw [ea] at p
      have e1 := asI_some ea
      subst e1
      exact ⟨i, h1.intV, p H1 h1.pop⟩) fun _ _ x => x⟩
theorem dq_cut {G : Kx} {A : Hp} {vs : List V} {ds : List PyData} (q : DqAll G.K A vs ds) {lo hi : Option Int} : DqAll G.K A (cutV vs lo hi) (cutD ds lo hi) := by
  unfold cutV cutD
  rw [dqAll_len q]
  exact dqAll_take _ (dqAll_drop _ q)
theorem dq_ints {G : Kx} {A : Hp} : ∀ ns : List Int, DqAll G.K A (ns.map V.int) (ns.map .int)
  | [] => .nil
  | n :: r => .cons (.int n) (dq_ints r)
theorem fe_slice (he : FE X W e f) (hl : FO X W lo ml) (hh : FO X W hi mh) : FE X W (.Subscript e (.Slice lo hi none p2) pos) (mSl f ml mh) := pe_imp (pe_slice (sl_list.or sl_tupA) he hl hh) fun σ H Q ⟨fx, stk, s, h, p⟩ =>
  ⟨fx, stk, s, h, (Post.bind p).mono (fun a s1 p v H1 h1 => ⟨fx, _, s1, h1, (Post.bind p).mono (fun l s2 p H2 h2 => ⟨fx, _, s2, h2, (Post.bind p).mono (fun u s3 p H3 h3 => by
    obtain ⟨c, s', e, q⟩ := Post.ofO p
    unfold gSl at e
    split at e
    · rename_i ds e1
      cases e
      obtain ⟨T, μ, h⟩ := h3
      obtain ⟨l, vs, rfl, q1, q2⟩ := h.lookL h.stk.1 e1
      exact .inl ⟨l, vs, rfl, SqL.of q1, fun p hp => q _ _ (Rel.newOwn h.pop hp (dq_cut q2))⟩
    · rename_i ds e1
      cases e
      obtain ⟨T, μ, h⟩ := h3
      obtain ⟨l, vs, rfl, q1, q2⟩ := h.lookT h.stk.1 e1
      refine .inr ⟨l, vs, rfl, dh_le.sqT q1, fun z => q _ _ ⟨T, μ, h.pop.push (Dq.tup q1 ?_)⟩, fun _ p hp => q _ _ (Rel.newTup h.pop hp (dq_cut q2))⟩
      unfold cutD
      rw [← dqAll_len q2, z.1, z.2]
      rw [List.drop_zero, Nat.sub_zero, dqAll_len q2, List.take_length]
      exact q2
    · cases a with
      | scr ns =>
        cases e
        obtain ⟨T, μ, h⟩ := h3
        obtain ⟨l, rfl, q1⟩ := h.stk.1
        refine .inl ⟨l, ns.map V.int, rfl, dh_le.sqL q1, fun p hp => q _ _ (Rel.newOwn h.pop hp ?_)⟩
        unfold cutV
        rw [List.length_map, ← List.map_drop, ← List.map_take]
        exact dq_ints _
      | _ => cases e) fun _ _ x => x.up⟩) fun _ _ x => x.up⟩) fun _ _ x => x⟩
theorem fe_ix (ha : FE X W a f1) (hb : FE X W b f2) (hs : PlainIx b := by exact fun _ _ => rfl) : FE X W (.Subscript a b pos) (mOp gIx f1 f2) := pe_imp (pe_ix (ix_list.or ix_tup) ha hb hs) (op_step v2_ix)
end
end Fe

/-! Fe7: statements, targets, loops. -/
namespace Fe
open PySem PySem.Spec PyProof.Rows L2

inductive Fl where
  | next | brk | cont | ret (av : AV)
def XwS (G : Kx) (W : WX) (fx : Fx) (stk : List (V × AV)) : Exc → Sx → Prop := fun e s' => ∀ c d σ' H', RelP G fx stk s' σ' H' (RepX G e c d) → W c d σ' H'
theorem XwS.up {G : Kx} {W : WX} {fx : Fx} {stk : List (V × AV)} {p : V × AV} {e : Exc} {s : Sx} (h : XwS G W fx stk e s) : XwS G W fx (p :: stk) e s := fun c d σ H' q => h c d σ H' q.pop
theorem XwS.to {G : Kx} {W : WX} {fx : Fx} {stk : List (V × AV)} {e : Exc} {s : Sx} {σ : L2.St} (h : XwS G W fx stk e s) : Xw G W fx stk σ e s := fun c d H' q => h c d σ H' q
/-- what a statement is to reach -/
def ΦS (G : Kx) (fx : Fx) (stk : List (V × AV)) (D : Ends) : Fl → Sx → Prop
  | .next, s' => ∀ σ' H', Rel G fx stk s' σ' H' → D.nx σ' H'
  | .brk, s' => ∀ σ' H', Rel G fx stk s' σ' H' → D.bk σ' H'
  | .cont, s' => ∀ σ' H', Rel G fx stk s' σ' H' → D.ct σ' H'
  | .ret av, s' => ∀ v σ' H', Rel G fx ((v, av) :: stk) s' σ' H' → D.rt v H'
def tSOf (G : Kx) (W : WX) (f : Sx → Res Fl) : TS := fun D σ H => ∃ fx stk s, NoPk stk ∧ Rel G fx stk s σ H ∧ Post (f s) (ΦS G fx stk D) (XwS G W fx stk)
def tGOf (G : Kx) (W : WX) (vs : List Nat) (g : AV → Sx → Res Unit) : TG := fun v σ H Q => ∃ fx stk s av, NoPk ((v, av) :: stk) ∧ Rel G fx ((v, av) :: stk) s σ H ∧ Post (g av s) (fun _ s' => ∀ σ' H', wipe σ' vs = wipe σ vs → Rel G fx stk s' σ' H' → Q σ' H') (XwS G W fx stk)
def tGsOf (G : Kx) (W : WX) (vs : List Nat) (g : List AV → Sx → Res Unit) : TGs := fun xs σ H Q => ∃ fx stk s ps, xs = ps.map (·.1) ∧ NoPk (ps ++ stk) ∧ Rel G fx (ps ++ stk) s σ H ∧ Post (g (ps.map (·.2)) s) (fun _ s' => ∀ σ' H', wipe σ' vs = wipe σ vs → Rel G fx stk s' σ' H' → Q σ' H') (XwS G W fx stk)
def FS (X : Cx) (W : WX) (st : Stmt) (f : Sx → Res Fl) : Prop := PS X st (tSOf (gx X) W f)
def FSs (X : Cx) (W : WX) (st : List Stmt) (f : Sx → Res Fl) : Prop := PSs X st (tSOf (gx X) W f)
def FG (X : Cx) (W : WX) (vs : List Nat) (tg : Expr) (g : AV → Sx → Res Unit) : Prop := PG X tg (tGOf (gx X) W vs g)
def FGs (X : Cx) (W : WX) (vs : List Nat) (tg : List Expr) (g : List AV → Sx → Res Unit) : Prop := PGs X tg (tGsOf (gx X) W vs g)
theorem ps_imp {X : Cx} {e : Stmt} {t t' : TS} (h : PS X e t) (i : ∀ D σ H, t' D σ H → t D σ H) : PS X e t' := ⟨fun pins s σ H D I q => h.run pins s σ H D I (i _ _ _ q)⟩
theorem pss_imp {X : Cx} {e : List Stmt} {t t' : TS} (h : PSs X e t) (i : ∀ D σ H, t' D σ H → t D σ H) : PSs X e t' := ⟨fun pins s σ H D I q => h.run pins s σ H D I (i _ _ _ q)⟩
theorem pg_imp {X : Cx} {e : Expr} {t t' : TG} (h : PG X e t) (i : ∀ v σ H Q, t' v σ H Q → t v σ H Q) : PG X e t' := ⟨fun pins s σ H v u Q I r q => h.run pins s σ H v u Q I r (i _ _ _ _ q)⟩
theorem pgs_imp {X : Cx} {e : List Expr} {t t' : TGs} (h : PGs X e t) (i : ∀ v σ H Q, t' v σ H Q → t v σ H Q) : PGs X e t' := ⟨fun pins s σ H vs us Q I r q => h.run pins s σ H vs us Q I r (i _ _ _ _ q)⟩

/-! ### slots forgotten -/
theorem wipe_at (σ : L2.St) (j : Nat) : ∀ vs : List Nat, (wipe σ vs)[j]? = if j ∈ vs ∧ j < σ.length then some none else σ[j]?
  | [] => by simp [wipe]
  | v :: vs => by
    unfold wipe
    by_cases hv : v = j
    · subst hv
      by_cases hl : v < σ.length
      · rw [List.getElem?_set_self (by rw [wipe_length]; exact hl), if_pos ⟨List.mem_cons_self .., hl⟩]
      · rw [List.getElem?_eq_none (by rw [List.length_set, wipe_length]; omega), if_neg (fun z => hl z.2), List.getElem?_eq_none (by omega)]
    · rw [List.getElem?_set_ne hv, wipe_at σ j vs]
      have e : (j ∈ v :: vs) ↔ j ∈ vs := ⟨fun z => (List.mem_cons.mp z).elim (fun e => (hv e.symm).elim) id, fun z => List.mem_cons_of_mem _ z⟩
      by_cases h : j ∈ vs ∧ j < σ.length
      · rw [if_pos h, if_pos ⟨e.mpr h.1, h.2⟩]
      · rw [if_neg h, if_neg (fun z => h ⟨e.mp z.1, z.2⟩)]
theorem wipe_set {σ : L2.St} {i : Nat} {x : Option V} {vs : List Nat} (hi : i ∈ vs) : wipe (σ.set i x) vs = wipe σ vs := by
  apply List.ext_getElem?
  intro j
  rw [wipe_at, wipe_at, List.length_set]
  by_cases h : j ∈ vs ∧ j < σ.length
  · rw [if_pos h, if_pos h]
  · rw [if_neg h, if_neg h]
    by_cases hj : i = j
    · subst hj
      have : ¬ i < σ.length := fun z => h ⟨hi, z⟩
      rw [List.getElem?_eq_none (by rw [List.length_set]; omega), List.getElem?_eq_none (by omega)]
    · rw [List.getElem?_set_ne hj]

/-! ### simple statements -/
section
variable {X : Cx} {W : WX} {st : Stmt} {rest : List Stmt} {e a b c : Expr} {pos : Pos} {f g : Sx → Res Fl} {fe f1 f2 : Sx → Res AV} {ft : Sx → Res Bool}
def mNext : Sx → Res Fl := fun s => .ok .next s
def mSeq (f g : Sx → Res Fl) : Sx → Res Fl := fun s => (f s).bind fun fl s1 => match fl with
  | .next => g s1
  | r => .ok r s1
theorem fss_nil : FSs X W [] mNext := pss_imp pss_nil fun D σ H ⟨fx, stk, s, hn, h, p⟩ => p σ H h
theorem fss_cons (h1 : FS X W st f) (h2 : FSs X W rest g) : FSs X W (st :: rest) (mSeq f g) := pss_imp (pss_cons h1 h2) fun D σ H ⟨fx, stk, s, hn, h, p⟩ =>
  ⟨fx, stk, s, hn, h, (Post.bind p).mono (fun fl s1 p => by
    cases fl with
    | next => exact fun σ' H' h' => ⟨fx, stk, s1, hn, h', p⟩
    | _ => exact p) fun _ _ x => x⟩
theorem fss_one (h1 : FS X W st f) : FSs X W [st] f := pss_one h1
theorem fs_pass : FS X W (.Pass pos) mNext := ps_imp ps_pass fun D σ H ⟨fx, stk, s, hn, h, p⟩ => p σ H h
theorem fs_break : FS X W (.Break pos) (fun s => .ok .brk s) := ps_imp ps_break fun D σ H ⟨fx, stk, s, hn, h, p⟩ => p σ H h
theorem fs_continue : FS X W (.Continue pos) (fun s => .ok .cont s) := ps_imp ps_continue fun D σ H ⟨fx, stk, s, hn, h, p⟩ => p σ H h
def mExpr (f : Sx → Res AV) : Sx → Res Fl := fun s => (f s).bind fun _ s1 => .ok .next s1
theorem fs_expr (he : FE X W e fe) (hs : swapsWith e none pos.line X.env = pure false := by rfl) : FS X W (.Expr e pos) (mExpr fe) := ps_imp (ps_expr he hs) fun D σ H ⟨fx, stk, s, hn, h, p⟩ =>
  ⟨fx, stk, s, h, (Post.bind p).mono (fun av s1 p v H1 h1 => p σ H1 h1.pop) fun _ _ x => x.to⟩
def mIfS (c : Sx → Res Bool) (f g : Sx → Res Fl) : Sx → Res Fl := fun s => (c s).bind fun k s1 => if k = true then f s1 else g s1
theorem fs_if {x y : List Stmt} (hc : FT X W c ft) (ha : FSs X W x f) (hb : FSs X W y g) : FS X W (.If c x y pos) (mIfS ft f g) := ps_imp (ps_if hc ha hb) fun D σ H ⟨fx, stk, s, hn, h, p⟩ =>
  ⟨fx, stk, s, h, (Post.bind p).mono (fun k s1 p H1 h1 => by
    cases k with
    | true => exact ⟨fx, stk, s1, hn, h1, p⟩
    | false => exact ⟨fx, stk, s1, hn, h1, p⟩) fun _ _ x => x.to⟩
/-- a returned value leaves its slot -/
def ret : AV → Sx → Option (AV × Sx)
  | .pk i, s => match s.env[i]? with
    | some (some (.own ds)) => some (.own ds, { s with env := s.env.set i none })
    | some (some (.dat d)) => some (.dat d, s)
    | some (some (.obj l)) => some (.obj l, s)
    | _ => none
  | av, s => some (av, s)
theorem Rel.ret {G : Kx} {fx : Fx} {stk : List (V × AV)} {s s' : Sx} {σ : L2.St} {H : Hp} {v : V} {av bv : AV} (h : Rel G fx ((v, av) :: stk) s σ H) (e : Fe.ret av s = some (bv, s')) : Rel G fx ((v, bv) :: stk) s' σ H ∧ ∀ i, bv ≠ .pk i := by
  cases av with
  | dat d => cases e; exact ⟨h, fun _ z => nomatch z⟩
  | obj l => cases e; exact ⟨h, fun _ z => nomatch z⟩
  | scr l => cases e; exact ⟨h, fun _ z => nomatch z⟩
  | own ds => cases e; exact ⟨h, fun _ z => nomatch z⟩
  | pk i =>
    have hv := h.pk
    have e : (match s.env[i]? with | some (some (.own ds)) => some (AV.own ds, { s with env := s.env.set i none }) | some (some (.dat d)) => some (.dat d, s) | some (some (.obj l)) => some (.obj l, s) | _ => none) = some (bv, s') := e
    have same : ∀ av, s.env[i]? = some (some av) → (∀ ds, av ≠ .own ds) → Rel G fx ((v, av) :: stk) s σ H := fun av he hne => by
      obtain ⟨T, μ, h⟩ := h
      obtain ⟨_, v', e', q⟩ := h.env i _ he
      rw [hv] at e'; cases e'
      refine ⟨T, μ, h.pop.push ?_⟩
      cases av with
      | own ds => exact (hne ds rfl).elim
      | _ => exact q
    match he : s.env[i]? with
    | some (some (.own ds)) => rw [he] at e; cases e; exact ⟨h.takeSlot he, fun _ z => nomatch z⟩
    | some (some (.dat d)) => rw [he] at e; cases e; exact ⟨same _ he fun _ z => (nomatch z), fun _ z => nomatch z⟩
    | some (some (.obj d)) => rw [he] at e; cases e; exact ⟨same _ he fun _ z => (nomatch z), fun _ z => nomatch z⟩
    | some (some (.scr d)) => rw [he] at e; cases e
    | some (some (.pk d)) => rw [he] at e; cases e
    | some none => rw [he] at e; cases e
    | none => rw [he] at e; cases e
def mRet (f : Sx → Res AV) : Sx → Res Fl := fun s => (f s).bind fun av s1 => (ofO (ret av s1)).bind fun bv s2 => .ok (.ret bv) s2
theorem fs_ret (he : FE X W e fe) : FS X W (.Return (some e) pos) (mRet fe) := ps_imp (ps_ret he) fun D σ H ⟨fx, stk, s, hn, h, p⟩ =>
  ⟨fx, stk, s, h, (Post.bind p).mono (fun av s1 p v H1 h1 => by
    obtain ⟨bv, s2, e, q⟩ := Post.ofO (Post.bind p)
    exact q v σ H1 (h1.ret e).1) fun _ _ x => x.to⟩
theorem fs_retN : FS X W (.Return none pos) (fun s => .ok (.ret (.dat .none)) s) := ps_imp ps_retN fun D σ H ⟨fx, stk, s, hn, h, p⟩ => p .non σ H (h.scal fun _ => .non)

/-! ### targets -/
def stv (i : Nat) : AV → Sx → Res Unit
  | .pk _, _ => .stuck
  | av, s => .ok () { s with env := s.env.set i (some av) }
theorem fg_name (i : Nat) {vs : List Nat} {x : Str} (hN : X.N.Nodup) (hi : X.N[i]? = some x := by rfl) (hx : Loc X.env.scope x := by first | exact Or.inl rfl | exact Or.inr rfl) (hf : X.fn x = true ∨ X.env.scope.names.lookup x = some .local := by first | exact .inl rfl | exact .inr rfl)
    (hv : i ∈ vs := by decide) : FG X W vs (.Name x pos) (stv i) := pg_imp (pg_name hN hi hx hf) fun v σ H Q ⟨fx, stk, s, av, hn, h, p⟩ => by
  have hp : ∀ j, av ≠ .pk j := fun j z => hn _ (List.mem_cons_self ..) j z
  have p' : ∀ σ' H', wipe σ' vs = wipe σ vs → Rel (gx X) fx stk { s with env := s.env.set i (some av) } σ' H' → Q σ' H' := by
    cases av with
    | pk j => exact (hp j rfl).elim
    | _ => exact p
  refine p' _ _ (wipe_set hv) ?_
  by_cases hi : i < σ.length
  · exact h.setSlot hi hn.tail hp
  · have e1 : σ.set i (some v) = σ := List.set_eq_of_length_le (by omega)
    rw [e1]
    obtain ⟨T, μ, h⟩ := h
    have e2 : s.env.set i (some av) = s.env := List.set_eq_of_length_le (by rw [h.len]; omega)
    rw [e2]
    exact ⟨T, μ, h.pop⟩
def mSet (i : Nat) (f : Sx → Res AV) : Sx → Res Fl := fun s => (f s).bind fun av s1 => (stv i av s1).bind fun _ s2 => .ok .next s2
theorem fs_asg {vs : List Nat} {tg : Expr} {g : AV → Sx → Res Unit} (he : FE X W e fe) (hg : FG X W vs tg g) (hs : swapsWithSole [tg] e pos.line X.env = pure false := by rfl) (hw : swappedStores [tg] e X.env = pure none := by rfl)
    (hst : (assignEach [tg] X.env).map (·.2) = [assign tg X.env] := by rfl) : FS X W (.Assign [tg] e pos) (fun s => (fe s).bind fun av s1 => match av with | .pk _ => .stuck | av => (g av s1).bind fun _ s2 => .ok .next s2) := ps_imp (ps_asg he hg hs hw hst) fun D σ H ⟨fx, stk, s, hn, h, p⟩ =>
  ⟨fx, stk, s, h, (Post.bind p).mono (fun av s1 p v H1 h1 => by
    have go : (∀ j, av ≠ .pk j) → Post ((g av s1).bind fun _ s2 => Res.ok Fl.next s2) (ΦS (gx X) fx stk D) (XwS (gx X) W fx stk) → tGOf (gx X) W vs g v σ H1 D.nx := fun hp p =>
      ⟨fx, stk, s1, av, NoPk.cons hp hn, h1, (Post.bind p).mono (fun _ s2 q σ' H' _ h' => q σ' H' h') fun _ _ x => x⟩
    cases av with
    | pk j => exact p.elim
    | _ => exact go (fun _ z => nomatch z) p) fun _ _ x => x.to⟩
theorem fs_set (i : Nat) {x : Str} {pos' : Pos} (hN : X.N.Nodup) (he : FE X W e fe) (hi : X.N[i]? = some x := by rfl) (hx : Loc X.env.scope x := by first | exact Or.inl rfl | exact Or.inr rfl) (hs : swapsWith e (some (.Name x pos')) pos.line X.env = pure false := by rfl)
    (hf : X.fn x = true ∨ X.env.scope.names.lookup x = some .local := by first | exact .inl rfl | exact .inr rfl) : FS X W (.Assign [.Name x pos'] e pos) (mSet i fe) := ps_imp (ps_set hN hi hx he hs hf) fun D σ H ⟨fx, stk, s, hn, h, p⟩ =>
  ⟨fx, stk, s, h, (Post.bind p).mono (fun av s1 p v H1 h1 => by
    have p1 := Post.bind p
    have hp : ∀ j, av ≠ .pk j := fun j z => by subst z; exact p1
    have p' : ∀ σ' H', Rel (gx X) fx stk { s1 with env := s1.env.set i (some av) } σ' H' → D.nx σ' H' := by
      cases av with
      | pk j => exact (hp j rfl).elim
      | _ => exact p1
    refine p' _ _ ?_
    by_cases hi : i < σ.length
    · exact h1.setSlot hi hn hp
    · have e1 : σ.set i (some v) = σ := List.set_eq_of_length_le (by omega)
      rw [e1]
      obtain ⟨T, μ, h⟩ := h1
      have e2 : s1.env.set i (some av) = s1.env := List.set_eq_of_length_le (by rw [h.len]; omega)
      rw [e2]
      exact ⟨T, μ, h.pop⟩) fun _ _ x => x.to⟩
/-- a tuple taken apart -/
def gsNil : List AV → Sx → Res Unit
  | [], s => .ok () s
  | _ :: _, _ => .stuck
def gsCons (g : AV → Sx → Res Unit) (r : List AV → Sx → Res Unit) : List AV → Sx → Res Unit
  | [], _ => .stuck
  | a :: as, s => (g a s).bind fun _ s1 => r as s1
theorem fgs_nil {vs : List Nat} : FGs X W vs [] gsNil := pgs_imp pgs_nil fun xs σ H Q ⟨fx, stk, s, ps, e, hn, h, p⟩ => by
  cases ps with
  | nil => exact ⟨e, p σ H rfl h⟩
  | cons _ _ => exact p.elim
theorem fgs_cons {vs : List Nat} {es : List Expr} {g : AV → Sx → Res Unit} {r : List AV → Sx → Res Unit} (h1 : FG X W vs e g) (h2 : FGs X W vs es r) (hst : (assignEach (e :: es) X.env).map (·.2) = assign e X.env :: (assignEach es X.env).map (·.2) := by rfl) : FGs X W vs (e :: es) (gsCons g r) := pgs_imp (pgs_cons h1 h2 hst) fun xs σ H Q ⟨fx, stk, s, ps, e, hn, h, p⟩ => by
  cases ps with
  | nil => exact p.elim
  | cons q qs =>
    refine ⟨q.1, qs.map (·.1), (by rw [e, List.map_cons]), fx, qs ++ stk, s, q.2, hn, h, (Post.bind p).mono (fun _ s1 p σ' H' ew h' => ⟨fx, stk, s1, qs, rfl, hn.tail, h', p.mono (fun _ s2 p σ2 H2 e2 h2 => p σ2 H2 (e2.trans ew) h2) fun _ _ x => x⟩) fun _ _ x c d σ' H' q => ?_⟩
    obtain ⟨T, μ, hr, hq⟩ := q
    exact x c d σ' H' ⟨T, μ, hr.drop, hq⟩
def gTupA (n : Nat) (r : List AV → Sx → Res Unit) : AV → Sx → Res Unit := fun av s => match av with
  | .dat (.tuple ds) => if ds.length = n then r (ds.map .dat) s else .stuck
  | _ => .stuck
theorem dq_zip {G : Kx} {fx : Fx} {T : Addr → Tag} {μ : Nat → Addr} {stk : List (V × AV)} {s : Sx} {σ : L2.St} {H : Hp} (h : R G fx T μ stk s σ H) : ∀ {vs : List V} {ds : List PyData}, DqAll G.K (dh T H) vs ds → R G fx T μ (vs.zip (ds.map AV.dat) ++ stk) s σ H
  | _, _, .nil => h
  | _, _, .cons q k => (dq_zip h k).push (by exact q)
theorem zip_fst {vs : List V} {xs : List AV} : vs.length = xs.length → (vs.zip xs).map (·.1) = vs := fun e => List.map_fst_zip (by omega)
theorem zip_snd {vs : List V} {xs : List AV} : vs.length = xs.length → (vs.zip xs).map (·.2) = xs := fun e => List.map_snd_zip (by omega)
theorem noPk_zip : ∀ (vs : List V) (ds : List PyData), NoPk (vs.zip (ds.map AV.dat))
  | [], _ => NoPk.nil
  | _ :: _, [] => NoPk.nil
  | v :: vs, d :: ds => NoPk.cons (fun _ z => nomatch z) (noPk_zip vs ds)
theorem NoPk.append {a b : List (V × AV)} (h : NoPk a) (k : NoPk b) : NoPk (a ++ b) := fun p hp => (List.mem_append.mp hp).elim (h p) (k p)
theorem fg_tup {vs : List Nat} {es : List Expr} {k : Nat} {r : List AV → Sx → Res Unit} {n : Nat} (hc : X.calm = true) (h : FGs X W vs es r) (hn : (assignEach es X.env).length = n := by rfl) (hst : (assignEach es X.env).findIdx? (·.1) = none := by rfl) : FG X W vs (.Tuple es k pos) (gTupA n r) := by
  refine pg_imp (pg_tup hc h hn hst) fun v σ H Q ⟨fx, stk, s, av, hn, h, p⟩ => ?_
  cases av with
  | dat d =>
    cases d with
    | tuple ds =>
      have p : Post (if ds.length = n then r (ds.map .dat) s else .stuck) _ _ := p
      by_cases hl : ds.length = n
      · rw [if_pos hl] at p
        obtain ⟨T, μ, h⟩ := h
        cases (show Dq (gx X).K (dh T H) v (.tuple ds) from h.stk.1) with
        | @tup a xs _ h1 h2 =>
          have el : xs.length = (ds.map AV.dat).length := by rw [List.length_map]; exact dqAll_len h2
          refine ⟨a, xs, rfl, dh_le.sqT h1, by rw [dqAll_len h2]; exact hl, fx, stk, s, xs.zip (ds.map .dat), (zip_fst el).symm, (noPk_zip _ _).append hn.tail, ⟨T, μ, dq_zip h.pop h2⟩, ?_⟩
          rw [zip_snd el]
          exact p
      · rw [if_neg hl] at p; exact p.elim
    | _ => exact p.elim
  | _ => exact p.elim
end
end Fe

/-! Fe8: enumerate and zip over lists and tuples in any mix, for the hand layer (Turn). -/
namespace Fe
open PySem PySem.Spec PyProof.Rows L2

/-! ### enumerate(v): one argument -/
theorem meets_enum1 {v : Value} {o : Obj} {H : Heap → Prop} (B : Begins v o H) :
    Meets (Builtin.«enumerate.__new__» ⟨[.type "enumerate", v], []⟩) (fun _ R s => H s.heap ∧
      R (.ok (.ret (.ref (s.heap.push o).objs.size))) { s with heap := (s.heap.push o).push { cls := .type "enumerate", data := .fields #[.none, .bool false, .ref s.heap.objs.size, rawInt 0, .none, .none] } }) :=
  .of_wp fun prog w A R s h => by
    obtain ⟨hp, g, d, tk, os⟩ := s; obtain ⟨h1, h⟩ := h
    have hsub := sub_enumerate
    have q1 : ∀ {A' : Around} {E : Value → Shared → Prop} {Q : Value → Shared → Prop}, Q (.ref hp.objs.size) ⟨hp.push o, g, d, tk, os⟩ → wpAny (model prog w) A' (pyIter v) Q E ⟨hp, g, d, tk, os⟩ :=
      fun q => B.iter prog w _ _ ⟨hp, g, d, tk, os⟩ _ h1 q
    wp_walk using q1
    refine wpAny_stack_any fun st => wpAny_pure ?_
    split
    · rename_i c _ _ _ _ _
      cases (c == Value.type "enumerate")
      · wp_walk using q1
        exact ⟨_, rfl, h⟩
      · wp_walk using q1
        exact ⟨_, rfl, h⟩
    · wp_walk using q1
      exact ⟨_, rfl, h⟩
theorem enum1 {prog : Program} {w : World} {A : Around} {E : Value → Shared → Prop} {s : Shared} {v : Value} {o : Obj} {H : Heap → Prop} {Q : Value → Shared → Prop} (B : Begins v o H) (h1 : H s.heap)
    (h : ∀ h', IsEnum h' (s.heap.objs.size + 1) s.heap.objs.size 0 .none → h'.get? s.heap.objs.size = some o → h'.objs.size = s.heap.objs.size + 2 →
      (∀ b o, s.heap.get? b = some o → h'.get? b = some o) → Q (.ref (s.heap.objs.size + 1)) { s with heap := h' }) :
    wpAny (model prog w) A (call (.type "enumerate") [v]) Q E s := by
  refine callType_new F.called_enumerate (by decide) (F.typeCall_enumerate_1 _) (F.newCall_enumerate_1 _) (fun obj => F.args_object_init_2 obj _) F.entry_enumerate_new
    (meets_enum1 B) ⟨h1, ?_⟩
  have hz : (s.heap.push o).objs.size = s.heap.objs.size + 1 := Heap.size_push ..
  show _ ∧ _
  rw [hz]
  have he : IsEnum ((s.heap.push o).push { cls := .type "enumerate", data := .fields #[.none, .bool false, .ref s.heap.objs.size, rawInt 0, .none, .none] }) (s.heap.objs.size + 1) s.heap.objs.size 0 .none := by
    have := Heap.get?_push_size (s.heap.push o) (o := { cls := .type "enumerate", data := .fields #[.none, .bool false, .ref s.heap.objs.size, rawInt 0, .none, .none] }) rfl
    rw [hz] at this; exact this
  refine ⟨⟨_, he, rfl⟩, h _ he (Heap.get?_push_of_some _ (Heap.get?_push_size _ B.free)) (by rw [Heap.size_push, hz]) fun b o x => Heap.get?_push_of_some _ (Heap.get?_push_of_some _ x)⟩

/-! ### a list or a tuple (b: a tuple), its iterator -/
def SqB (K : PySem.W.Frag) (H : Hp) (b : Bool) (a : Addr) (xs : List V) : Prop := match b with
  | true => SqT K H a xs
  | false => SqL K H a xs
def IsSq (h : Heap) (b : Bool) (a : Addr) (its : Array Value) : Prop := match b with
  | true => h.IsTuple a its
  | false => h.IsList a its
def IsIt (h : Heap) (b : Bool) (it a : Addr) (i : Nat) : Prop := match b with
  | true => h.IsTupleIter it a i
  | false => h.IsListIter it a i
def itObj (b : Bool) (a : Addr) : Obj := match b with
  | true => { cls := .type "tuple_iterator", data := .fields #[.ref a, .int 0 0] }
  | false => { cls := .type "list_iterator", data := .fields #[.ref a, .int 0 0] }
theorem begins_sq (b : Bool) (a : Addr) (its : Array Value) : Begins (.ref a) (itObj b a) fun h => IsSq h b a its := by
  cases b with
  | true => exact begins_tuple a its
  | false => exact begins_list a its
theorem isIt_new {h : Heap} {b : Bool} {it a : Addr} (e : h.get? it = some (itObj b a)) : IsIt h b it a 0 := by
  cases b with
  | true => exact ⟨_, e, rfl, rfl⟩
  | false => exact ⟨_, e, rfl, rfl⟩
theorem isIt_at {h h' : Heap} {b : Bool} {it a : Addr} {i : Nat} (x : IsIt h b it a i) (k : ∀ o, h.get? it = some o → h'.get? it = some o) : IsIt h' b it a i := by
  cases b with
  | true => exact (show h.IsTupleIter it a i from x).at k
  | false => exact (show h.IsListIter it a i from x).at k
theorem isIt_obj {h : Heap} {b : Bool} {it a : Addr} {i : Nat} (x : IsIt h b it a i) : ∃ o, h.get? it = some o ∧ ∀ v, o.data ≠ .cell v := by
  cases b with
  | true => obtain ⟨o, e, _, d⟩ := (show h.IsTupleIter it a i from x); exact ⟨o, e, fun v q => by rw [d] at q; cases q⟩
  | false => obtain ⟨o, e, _, d⟩ := (show h.IsListIter it a i from x); exact ⟨o, e, fun v q => by rw [d] at q; cases q⟩
theorem drawsSq {prog : Program} {w : World} {A : Around} (hh : A.handled = none) (b : Bool) (it a : Addr) (hne : a ≠ it) (items : Array Value) :
    Draws prog w A it [it, a] items.size (fun i v => items[i]? = some v) (fun i h => IsIt h b it a i ∧ IsSq h b a items) := by
  cases b with
  | true => exact Draws.tuple hh it a hne items
  | false => exact Draws.list hh it a hne items
section
variable {X : Cx} {pins : List (Addr × Obj)} {σ : L2.St} {H : Hp} {s : Shared} {a : Addr} {xs ys : List V} {b : Bool}
theorem inv_sq (I : Inv X pins σ H s) (h : SqB X.K H b a xs) : ∃ its : List Value, Vals xs its ∧ IsSq s.heap b a its.toArray := by
  cases b with
  | true => obtain ⟨its, r, p, _⟩ := I.tuple (show SqT X.K H a xs from h); exact ⟨its, r, p⟩
  | false => obtain ⟨its, r, p, _⟩ := I.list (show SqL X.K H a xs from h); exact ⟨its, r, p.isList⟩
theorem inv_sq_inj (I : Inv X pins σ H s) (h : SqB X.K H b a xs) (h' : SqB X.K H b a ys) : xs = ys := by
  cases b with
  | true => exact I.tuple_inj h h'
  | false => exact I.list_inj h h'
theorem isSq_lt {h : Heap} {its : Array Value} (x : IsSq h b a its) : a < h.objs.size := by
  cases b with
  | true => obtain ⟨_, e, _⟩ := (show h.IsTuple a its from x); exact Heap.lt_size e
  | false => obtain ⟨_, e, _⟩ := (show h.IsList a its from x); exact Heap.lt_size e
end

/-! ### enumerate -/
def IteB (K : PySem.W.Frag) (b : Bool) (a : Addr) : It :=
  ⟨fun i H => ∃ (xs : List V) (x : V), SqB K H b a xs ∧ xs[i]? = some x, fun i H v H' => ∃ T x, v = .ref T ∧ H T = none ∧ H' = upd H T (.tup [.int (i : Nat), x]) ∧ ∀ xs, SqB K H b a xs → xs[i]? = some x, fun i H => ∃ xs : List V, SqB K H b a xs ∧ xs.length = i⟩
theorem turn_enumB {P : Program} {w : World} {K : PySem.W.Frag} {elts : List Expr} {kk : Nat} {tpos : Pos} {b : Bool} (a e it : Addr) (hae : a ≠ e) (hai : a ≠ it) (hne : e ≠ it) :
    Turn P w K (.Tuple elts kk tpos) (IteB K b a) [e, it] e (fun i h => (∃ old, IsEnum h e it ((0 : Int) + ((i : Nat) : Int)) old) ∧ IsIt h b it a i) where
  mem := by simp
  obj := fun i h st c hc => by
    obtain ⟨⟨old, he⟩, hi⟩ := st
    have e' : c = e ∨ c = it := by simpa using hc
    rcases e' with z | z
    · rw [z]; exact ⟨_, he, fun v q => nomatch q⟩
    · rw [z]; exact isIt_obj hi
  keep := fun i h h' st k => let ⟨⟨old, he⟩, hi⟩ := st; ⟨⟨old, k e (by simp) _ he⟩, isIt_at hi fun o q => k it (by simp) o q⟩
  item := by
    intro X hP hw hK hc i pins s σ H E I hf st hg
    subst hP hw hK
    obtain ⟨xs, x, hq, hx⟩ := hg
    obtain ⟨its, rv, p⟩ := inv_sq I hq
    obtain ⟨u, hu, ru⟩ := rv.get hx
    have W := GoesN.enumFrom (prog := X.prog) (w := X.w) (A := X.A) (elts := elts) (x1 := kk) (pos := tpos) 0 (drawsSq (prog := X.prog) (w := X.w) (A := X.A.in1) (I.ok.hd hc) b it a hai its.toArray) e hne (by simp [hne, hae.symm]) (by simp)
    refine W.goes i s _ E ?_ ⟨st.1, st.2, p⟩ fun v h' tk hY st' hk htk => ?_
    · have := (List.getElem?_eq_some_iff.mp hu).1
      simpa using this
    · obtain ⟨T, t, y, rfl, hn, hy, hT⟩ := hY
      have ey : y = u := by
        have e1 : its.toArray[i]? = some u := by simpa using hu
        rw [e1] at hy; exact (Option.some.inj hy).symm
      subst ey
      have e0 : (0 : Int) + (i : Int) = (i : Nat) := by omega
      rw [e0] at hT
      obtain ⟨o, ho, hcl, nn, hd⟩ := hT
      have new : ObjOk X.prog X.w (upd H T (.tup [.int (i : Nat), x])) h' T (.tup [.int (i : Nat), x]) :=
        ⟨by show 2 ≤ sizeLine; decide, [.int i t, y], .cons ⟨_, rfl⟩ (.cons ru .nil), ⟨o, ho, hcl, nn, hd⟩⟩
      have I1 : Inv X pins σ (upd H T (.tup [.int (i : Nat), x])) { s with heap := h', toks := tk } := I.turnedNew (ch := [e, it]) (fun c ob hb q => hk c ob hb q) hf hn new
      refine ⟨.ref T, _, I1, rfl, ⟨T, x, rfl, I.hok.fresh hn, rfl, fun ys hy => by rw [inv_sq_inj I hy hq]; exact hx⟩, ⟨?_, st'.2.1⟩, fun c hcm => ?_⟩
      · exact st'.1
      · have hc' : c < s.heap.objs.size := by
          obtain ⟨⟨old, he⟩, hi⟩ := st
          have e' : c = e ∨ c = it := by simpa using hcm
          rcases e' with z | z
          · rw [z]; exact Heap.lt_size he
          · rw [z]; obtain ⟨o, q, _⟩ := isIt_obj hi; exact Heap.lt_size q
        rw [upd_ne (Nat.ne_of_lt (Nat.lt_of_lt_of_le hc' hn))]
        exact (hf c hcm).1
  done := by
    intro X hP hw hK hc i pins s σ H E I hf st hg
    subst hP hw hK
    obtain ⟨xs, hq, hx⟩ := hg
    obtain ⟨its, rv, p⟩ := inv_sq I hq
    have hl := rv.length
    have W := GoesN.enumFrom (prog := X.prog) (w := X.w) (A := X.A) (elts := elts) (x1 := kk) (pos := tpos) 0 (drawsSq (prog := X.prog) (w := X.w) (A := X.A.in1) (I.ok.hd hc) b it a hai its.toArray) e hne (by simp [hne, hae.symm]) (by simp)
    have en : i = its.toArray.size := by rw [List.size_toArray]; omega
    subst en
    exact W.stops s _ E ⟨st.1, st.2, p⟩ fun h' tk hk htk => I.turnedL (ch := [e, it]) (fun c ob hb q => hk c ob hb q) hf
  self := fun A i s Q E st h => let ⟨⟨_, he⟩, _⟩ := st; wpAny_pyIter_enum he h
def iEnumB (K : PySem.W.Frag) (ta : TA) : TI := fun σ H R => ta σ H fun vs H1 => ∃ b a xs, vs = [.ref a] ∧ SqB K H1 b a xs ∧ R (IteB K b a) H1
theorem pi_enumB {X : Cx} {e : Expr} {ta : TA} {p pos tpos : Pos} {elts : List Expr} {kk : Nat} (hg : Gl X "enumerate") (hm : X.mg "enumerate" = none) (ha : PA X [e] ta) (hs : starEach [e] X.env = [(false, eval e X.env)] := by rfl) :
    PI X (.Tuple elts kk tpos) (.Call (.Name "enumerate" p) [e] [] pos) (iEnumB X.K ta) := by
  refine ⟨fun pins s σ H R I h => ?_⟩
  refine Call_ (ld_blt I hg hm boot_enumerate (PyProof.Rows.callWith_type1 (thn (ha.run pos pins s σ H _ I h) fun us s1 ⟨vs, H1, I1, r1, q1⟩ => ?_) hs rfl))
  obtain ⟨b, a, xs, ex, hq, q⟩ := q1
  subst ex
  cases r1 with
  | cons r rr =>
    cases rr
    cases r
    obtain ⟨its, rv, p'⟩ := inv_sq I1 hq
    have hal := isSq_lt p'
    refine enum1 (begins_sq b a its.toArray) p' fun h' he hit hsz hk => wpAny_pyIter_enum he ?_
    have I2 : Inv X pins σ H1 { s1 with heap := h' } := I1.kept (t' := s1.toks) hk
    refine ⟨s1.heap.objs.size + 1, [s1.heap.objs.size + 1, s1.heap.objs.size], _, _, H1, rfl, I2, turn_enumB a (s1.heap.objs.size + 1) s1.heap.objs.size (Nat.ne_of_lt (Nat.lt_succ_of_lt hal)) (Nat.ne_of_lt hal) (Nat.succ_ne_self _), ⟨⟨.none, by simpa using he⟩, isIt_new hit⟩, fun b hb => ?_, q⟩
    have e' : b = s1.heap.objs.size + 1 ∨ b = s1.heap.objs.size := by simpa using hb
    have hle : s1.heap.objs.size ≤ b := by
      rcases e' with z | z
      · rw [z]; exact Nat.le_add_right _ _
      · rw [z]; exact Nat.le_refl _
    exact I1.fpOk hle (I1.hok.fresh hle)

/-! ### zip of two -/
def Itz2 (K : PySem.W.Frag) (b1 : Bool) (a1 : Addr) (b2 : Bool) (a2 : Addr) : It :=
  ⟨fun i H => ∃ (xs ys : List V) (x y : V), SqB K H b1 a1 xs ∧ SqB K H b2 a2 ys ∧ xs[i]? = some x ∧ ys[i]? = some y,
    fun i H v H' => ∃ T x y, v = .ref T ∧ H T = none ∧ H' = upd H T (.tup [x, y]) ∧ (∀ xs, SqB K H b1 a1 xs → xs[i]? = some x) ∧ ∀ ys, SqB K H b2 a2 ys → ys[i]? = some y,
    fun i H => ∃ xs ys : List V, SqB K H b1 a1 xs ∧ SqB K H b2 a2 ys ∧ min xs.length ys.length = i⟩
theorem turn_zip2 {P : Program} {w : World} {K : PySem.W.Frag} {elts : List Expr} {kk : Nat} {tpos : Pos} {b1 b2 : Bool} {a1 a2 N : Addr} (h1 : a1 < N) (h2 : a2 < N) :
    Turn P w K (.Tuple elts kk tpos) (Itz2 K b1 a1 b2 a2) [N + 4, N + 2, N + 3, N, N + 1] (N + 4) (fun i h => IsZip h (N + 4) (N + 2) (N + 3) .none ∧ IsTupOf2 h (N + 2) (.ref N) (.ref (N + 1)) ∧ (∃ x y, IsTupOf2 h (N + 3) x y) ∧ IsIt h b1 N a1 i ∧ IsIt h b2 (N + 1) a2 i) where
  mem := by simp
  obj := fun i h st c hc => by
    obtain ⟨hz, hTI, ⟨x, y, hTO⟩, i1, i2⟩ := st
    have e' : c = N + 4 ∨ c = N + 2 ∨ c = N + 3 ∨ c = N ∨ c = N + 1 := by simpa using hc
    rcases e' with q | q | q | q | q
    · rw [q]; exact ⟨_, hz, fun v q => nomatch q⟩
    · rw [q]; exact ⟨_, hTI, fun v q => nomatch q⟩
    · rw [q]; exact ⟨_, hTO, fun v q => nomatch q⟩
    · rw [q]; exact isIt_obj i1
    · rw [q]; exact isIt_obj i2
  keep := fun i h h' st k => by
    obtain ⟨hz, hTI, ⟨x, y, hTO⟩, h1, h2⟩ := st
    exact ⟨k (N + 4) (by simp) _ hz, k (N + 2) (by simp) _ hTI, ⟨x, y, k (N + 3) (by simp) _ hTO⟩, isIt_at h1 fun o q => k N (by simp) o q, isIt_at h2 fun o q => k (N + 1) (by simp) o q⟩
  item := by
    intro X hP hw hK hc i pins s σ H E I hf st hg
    subst hP hw hK
    obtain ⟨xs, ys, x, y, hq, hq2, hx, hy⟩ := hg
    obtain ⟨its, rv, p⟩ := inv_sq I hq
    obtain ⟨its2, rv2, p2⟩ := inv_sq I hq2
    obtain ⟨u, hu, ru⟩ := rv.get hx
    obtain ⟨u2, hu2, ru2⟩ := rv2.get hy
    have W := GoesN.zip2 (prog := X.prog) (w := X.w) (A := X.A) (elts := elts) (x1 := kk) (pos := tpos) (zip_sep2 (N := N) (fp1 := [a1]) (fp2 := [a2]) (by simpa using h1) (by simpa using h2))
      (drawsSq (prog := X.prog) (w := X.w) (A := X.A.in1) (I.ok.hd hc) b1 N a1 (Nat.ne_of_lt h1) its.toArray) (drawsSq (prog := X.prog) (w := X.w) (A := X.A.in1) (I.ok.hd hc) b2 (N + 1) a2 (Nat.ne_of_lt (Nat.lt_succ_of_lt h2)) its2.toArray)
    refine W.goes i s _ E ?_ ⟨st.1, st.2.1, st.2.2.1, ⟨st.2.2.2.1, p⟩, ⟨st.2.2.2.2, p2⟩⟩ fun v h' tk hY st' hk htk => ?_
    · have z1 := (List.getElem?_eq_some_iff.mp hu).1
      have z2 := (List.getElem?_eq_some_iff.mp hu2).1
      rw [List.size_toArray, List.size_toArray]
      exact Nat.lt_min.mpr ⟨z1, z2⟩
    · obtain ⟨T, y1, y2, rfl, hn, hy1, hy2, hT⟩ := hY
      have e1 : y1 = u := by
        have e1 : its.toArray[i]? = some u := by simpa using hu
        rw [e1] at hy1; exact (Option.some.inj hy1).symm
      have e2 : y2 = u2 := by
        have e1 : its2.toArray[i]? = some u2 := by simpa using hu2
        rw [e1] at hy2; exact (Option.some.inj hy2).symm
      subst e1 e2
      obtain ⟨o, ho, hcl, nn, hd⟩ := hT
      have new : ObjOk X.prog X.w (upd H T (.tup [x, y])) h' T (.tup [x, y]) :=
        ⟨by show 2 ≤ sizeLine; decide, [y1, y2], .cons ru (.cons ru2 .nil), ⟨o, ho, hcl, nn, hd⟩⟩
      have sub : ∀ c, c ∈ [N + 4, N + 3, N, N + 1] → c ∈ [N + 4, N + 2, N + 3, N, N + 1] := fun c hc => by
        have e : c = N + 4 ∨ c = N + 3 ∨ c = N ∨ c = N + 1 := by simpa using hc
        rcases e with z | z | z | z <;> simp [z]
      have I1 : Inv X pins σ (upd H T (.tup [x, y])) { s with heap := h', toks := tk } := I.turnedNew (ch := [N + 4, N + 2, N + 3, N, N + 1]) (fun c ob hb q => hk c ob (fun z => hb (sub c z)) q) hf hn new
      refine ⟨.ref T, _, I1, rfl, ⟨T, x, y, rfl, I.hok.fresh hn, rfl, fun ys hy => by rw [inv_sq_inj I hy hq]; exact hx, fun ys hy' => by rw [inv_sq_inj I hy' hq2]; exact hy⟩, ⟨st'.1, st'.2.1, st'.2.2.1, st'.2.2.2.1.1, st'.2.2.2.2.1⟩, fun c hcm => ?_⟩
      have hc' : c < s.heap.objs.size := by
        obtain ⟨hz, hTI, ⟨x, y, hTO⟩, i1, i2⟩ := st
        have e' : c = N + 4 ∨ c = N + 2 ∨ c = N + 3 ∨ c = N ∨ c = N + 1 := by simpa using hcm
        rcases e' with q | q | q | q | q
        · rw [q]; exact Heap.lt_size hz
        · rw [q]; exact Heap.lt_size hTI
        · rw [q]; exact Heap.lt_size hTO
        · rw [q]; obtain ⟨o, q, _⟩ := isIt_obj i1; exact Heap.lt_size q
        · rw [q]; obtain ⟨o, q, _⟩ := isIt_obj i2; exact Heap.lt_size q
      rw [upd_ne (Nat.ne_of_lt (Nat.lt_of_lt_of_le hc' hn))]
      exact (hf c hcm).1
  done := by
    intro X hP hw hK hc i pins s σ H E I hf st hg
    subst hP hw hK
    obtain ⟨xs, ys, hq, hq2, hx⟩ := hg
    obtain ⟨its, rv, p⟩ := inv_sq I hq
    obtain ⟨its2, rv2, p2⟩ := inv_sq I hq2
    have hl := rv.length
    have hl2 := rv2.length
    have W := GoesN.zip2 (prog := X.prog) (w := X.w) (A := X.A) (elts := elts) (x1 := kk) (pos := tpos) (zip_sep2 (N := N) (fp1 := [a1]) (fp2 := [a2]) (by simpa using h1) (by simpa using h2))
      (drawsSq (prog := X.prog) (w := X.w) (A := X.A.in1) (I.ok.hd hc) b1 N a1 (Nat.ne_of_lt h1) its.toArray) (drawsSq (prog := X.prog) (w := X.w) (A := X.A.in1) (I.ok.hd hc) b2 (N + 1) a2 (Nat.ne_of_lt (Nat.lt_succ_of_lt h2)) its2.toArray)
    have en : i = min its.toArray.size its2.toArray.size := by rw [List.size_toArray, List.size_toArray, ← hl, ← hl2]; exact hx.symm
    subst en
    have sub : ∀ c, c ∈ [N + 4, N + 3, N, N + 1] → c ∈ [N + 4, N + 2, N + 3, N, N + 1] := fun c hc => by
      have e : c = N + 4 ∨ c = N + 3 ∨ c = N ∨ c = N + 1 := by simpa using hc
      rcases e with z | z | z | z <;> simp [z]
    exact W.stops s _ E ⟨st.1, st.2.1, st.2.2.1, ⟨st.2.2.2.1, p⟩, ⟨st.2.2.2.2, p2⟩⟩ fun h' tk hk htk => I.turnedL (ch := [N + 4, N + 2, N + 3, N, N + 1]) (fun c ob hb q => hk c ob (fun z => hb (sub c z)) q) hf
  self := fun A i s Q E st h => wpAny_pyIter_zip st.1 h
def iZip2 (K : PySem.W.Frag) (ta : TA) : TI := fun σ H R => ta σ H fun vs H1 => ∃ b1 a1 b2 a2 xs ys, vs = [.ref a1, .ref a2] ∧ SqB K H1 b1 a1 xs ∧ SqB K H1 b2 a2 ys ∧ R (Itz2 K b1 a1 b2 a2) H1
theorem pi_zip2 {X : Cx} {e e2 : Expr} {ta : TA} {p pos tpos : Pos} {elts : List Expr} {kk : Nat} (hg : Gl X "zip") (hm : X.mg "zip" = none) (ha : PA X [e, e2] ta)
    (hs : starEach [e, e2] X.env = (false, eval e X.env) :: starEach [e2] X.env := by rfl) (hpl : (backTo pos (starEach [e2] X.env)).any (·.1) = false := by rfl) :
    PI X (.Tuple elts kk tpos) (.Call (.Name "zip" p) [e, e2] [] pos) (iZip2 X.K ta) := by
  refine ⟨fun pins s σ H R I h => ?_⟩
  refine Call_ (ld_blt I hg hm PyProof.Rows.boot_zip (PyProof.Rows.callWith_type1 (thn (ha.run pos pins s σ H _ I h) fun us s1 ⟨vs, H1, I1, r1, q1⟩ => ?_) hs hpl))
  obtain ⟨b1, a1, b2, a2, xs, ys, ex, hqx, hqy, q⟩ := q1
  subst ex
  cases r1 with
  | cons r rr =>
    cases rr with
    | cons r' rr =>
      cases rr
      cases r
      cases r'
      obtain ⟨its, rv, p1⟩ := inv_sq I1 hqx
      obtain ⟨its2, rv2, p2⟩ := inv_sq I1 hqy
      refine zip_begins2 (begins_sq b1 a1 its.toArray) (begins_sq b2 a2 its2.toArray) p1 p2 fun h' hz hTI hTO h1 h2 hsz hk => wpAny_pyIter_zip hz ?_
      have I2 : Inv X pins σ H1 { s1 with heap := h' } := I1.kept (t' := s1.toks) hk
      refine ⟨s1.heap.objs.size + 4, [s1.heap.objs.size + 4, s1.heap.objs.size + 2, s1.heap.objs.size + 3, s1.heap.objs.size, s1.heap.objs.size + 1], _, _, H1, rfl, I2, turn_zip2 (isSq_lt p1) (isSq_lt p2), ⟨hz, hTI, ⟨_, _, hTO⟩, isIt_new h1, isIt_new h2⟩, fun c hcm => ?_, q⟩
      have e' : c = s1.heap.objs.size + 4 ∨ c = s1.heap.objs.size + 2 ∨ c = s1.heap.objs.size + 3 ∨ c = s1.heap.objs.size ∨ c = s1.heap.objs.size + 1 := by simpa using hcm
      have hle : s1.heap.objs.size ≤ c := by
        rcases e' with z | z | z | z | z
        · rw [z]; exact Nat.le_add_right _ _
        · rw [z]; exact Nat.le_add_right _ _
        · rw [z]; exact Nat.le_add_right _ _
        · rw [z]; exact Nat.le_refl _
        · rw [z]; exact Nat.le_add_right _ _
      exact I1.fpOk hle (I1.hok.fresh hle)
end Fe

/-! Fe9: what is walked; for, while, list comprehensions. -/
namespace Fe
open PySem PySem.Spec PyProof.Rows L2

def ItOk (G : Kx) (J : It) (lk : List (V × AV)) (items : List AV) : Prop := ∀ fx up stk s σ H, Rel G fx (up ++ (lk ++ stk)) s σ H → ∀ i, (∀ av, items[i]? = some av → J.go i H ∧ ∀ x H', J.yld i H x H' → Rel G fx ((x, av) :: (up ++ (lk ++ stk))) s σ H') ∧ (i = items.length → J.stop i H)
def tIOf (G : Kx) (W : WX) (f : Sx → Res (List AV)) : TI := fun σ H R => ∃ fx stk s, Rel G fx stk s σ H ∧ Post (f s) (fun items s' => ∀ J lk H', NoPk lk → (∀ av ∈ items, ∀ i, av ≠ .pk i) → ItOk G J lk items → Rel G fx (lk ++ stk) s' σ H' → R J H') (Xw G W fx stk σ)
def FI (X : Cx) (W : WX) (tg e : Expr) (f : Sx → Res (List AV)) : Prop := PI X tg e (tIOf (gx X) W f)
theorem pi_imp {X : Cx} {tg e : Expr} {t t' : TI} (h : PI X tg e t) (i : ∀ σ H R, t' σ H R → t σ H R) : PI X tg e t' := ⟨fun pins s σ H R I q => h.run pins s σ H R I (i _ _ _ q)⟩

/-! ### a list, a tuple, a text -/
def iSeq (K : PySem.W.Frag) (tl : TE) : TI := fun σ H R => tl σ H fun x H1 => (∃ a xs, x = .ref a ∧ SqL K H1 a xs ∧ R (Itl K a) H1) ∨ (∃ a xs, x = .ref a ∧ SqT K H1 a xs ∧ R (Itt K a) H1) ∨ ∃ z, x = .str z ∧ R (Its z) H1
theorem pi_seq {X : Cx} {tg l : Expr} {tl : TE} (hl : PE X l tl) : PI X tg l (iSeq X.K tl) := by
  refine ⟨fun pins s σ H R I h => ?_⟩
  -- each way by HandS's own rule, the value already there
  refine thn (hl.run pins s σ H _ I h) fun v s1 ⟨x, H1, I1, r1, q1⟩ => ?_
  rcases q1 with ⟨a, xs, rfl, hq, q⟩ | ⟨a, xs, rfl, hq, q⟩ | ⟨z, rfl, q⟩
  · cases r1
    obtain ⟨its, rv, p, hz⟩ := I1.list hq
    refine wpAny_pyIter_list p.isList ?_
    refine ⟨s1.heap.objs.size, [s1.heap.objs.size], _, _, H1, rfl, I1.kept (t' := s1.toks) fun b o e => Heap.get?_push_of_some _ e, turn_list a _, ⟨_, Heap.get?_push_size _ rfl, rfl, rfl⟩, fun b hb => ?_, q⟩
    have e : b = s1.heap.objs.size := by simpa using hb
    subst e
    exact I1.fpOk (Nat.le_refl _) (I1.hok.fresh (Nat.le_refl _))
  · cases r1
    obtain ⟨its, rv, p, hz⟩ := I1.tuple hq
    refine wpAny_pyIter_tuple (show s1.heap.IsTuple a its.toArray from p) ?_
    refine ⟨s1.heap.objs.size, [s1.heap.objs.size], _, _, H1, rfl, I1.kept (t' := s1.toks) fun b o e => Heap.get?_push_of_some _ e, turn_tuple a _, ⟨_, Heap.get?_push_size _ rfl, rfl, rfl⟩, fun b hb => ?_, q⟩
    have e : b = s1.heap.objs.size := by simpa using hb
    subst e
    exact I1.fpOk (Nat.le_refl _) (I1.hok.fresh (Nat.le_refl _))
  · obtain ⟨t, rfl⟩ := r1
    cases ha : z.cps.all (· < 128)
    · exact wpAny_pyIter_wide ha (pi_one (tk := s1.toks) I1 _ (turn_str _ z t "str_iterator" (.inr rfl)) ⟨_, Heap.get?_push_size _ rfl, rfl, rfl⟩ q)
    · exact wpAny_pyIter_ascii ha (pi_one (tk := s1.toks) I1 _ (turn_str _ z t "str_ascii_iterator" (.inl rfl)) ⟨_, Heap.get?_push_size _ rfl, rfl, rfl⟩ q)
def signs (z : Str) : List PyData := z.cps.toList.map fun c => .str ⟨#[c]⟩
def seqOf (s : Sx) : AV → Option (List PyData)
  | .pk _ => none
  | .obj _ => none
  | .dat (.str z) => some (signs z)
  | av => lookQ s av
def mSeqI (f : Sx → Res AV) : Sx → Res (List AV) := fun s => (f s).bind fun av s1 => match seqOf s1 av with
  | some ds => .ok (ds.map .dat) s1
  | none => .stuck
section
variable {G : Kx} {fx : Fx} {T : Addr → Tag} {μ : Nat → Addr} {stk : List (V × AV)} {s s' : Sx} {σ : L2.St} {H : Hp} {n : Nat} {v x y : V} {av a b c : AV} {t : Tag} {d e : PyData} {ds es : List PyData} {l : Addr}
theorem notPk_dat : ∀ av ∈ ds.map AV.dat, ∀ i, av ≠ .pk i := fun av h i z => by
  obtain ⟨d, _, e⟩ := List.mem_map.mp h
  rw [z] at e; cases e
theorem dat_at {i : Nat} (h : (ds.map AV.dat)[i]? = some av) : ∃ d, ds[i]? = some d ∧ av = .dat d := by
  rw [List.getElem?_map] at h
  obtain ⟨d, e1, e2⟩ := Option.map_eq_some_iff.mp h
  exact ⟨d, e1, e2.symm⟩
/-- a list that is data or the stack's own -/
def Lk (G : Kx) (v : V) (av : AV) (l : Addr) (ds : List PyData) : Prop := v = .ref l ∧ ((av = .dat (.list ds)) ∨ av = .own ds)
theorem Lk.look (k : Lk G v av l ds) (hr : Rep G T μ σ H n t v av) : ∃ vs, H l = some (.lst vs) ∧ DqAll G.K (dh T H) vs ds := by
  obtain ⟨rfl, rfl | rfl⟩ := k
  · cases (show Dq G.K (dh T H) (.ref l) (.list ds) from hr) with
    | lst h1 h2 => exact ⟨_, dh_le _ _ h1, h2⟩
  · obtain ⟨a, vs, e, _, h2, h3⟩ := hr
    cases e
    exact ⟨vs, h2, h3⟩
theorem Lk.noPk (k : Lk G v av l ds) : NoPk [(v, av)] := NoPk.cons (fun i z => by
  obtain ⟨_, e | e⟩ := k
  · rw [show av = .pk i from z] at e; cases e
  · rw [show av = .pk i from z] at e; cases e) NoPk.nil
theorem itOk_list (k : Lk G v av l ds) : ItOk G (Itl G.K l) [(v, av)] (ds.map .dat) := fun fx up stk s σ H h i => by
  refine ⟨fun bv e => ?_, fun e => ?_⟩
  · obtain ⟨d, e1, rfl⟩ := dat_at e
    obtain ⟨T, μ, h⟩ := h
    obtain ⟨vs, q1, q2⟩ := k.look (stk_low (s1 := up) h.stk).1
    obtain ⟨w, e2, q3⟩ := dqAll_at q2 e1
    refine ⟨⟨vs, w, SqL.of q1, e2⟩, fun x H' y => ?_⟩
    obtain ⟨rfl, y⟩ := y
    have e3 := y vs (SqL.of q1)
    rw [e2] at e3
    cases e3
    exact ⟨T, μ, h.push q3⟩
  · obtain ⟨T, μ, h⟩ := h
    obtain ⟨vs, q1, q2⟩ := k.look (stk_low (s1 := up) h.stk).1
    exact ⟨vs, SqL.of q1, by rw [e, List.length_map, dqAll_len q2]; exact Nat.le_refl _⟩
theorem itOk_tup : ItOk G (Itt G.K l) [(.ref l, .dat (.tuple ds))] (ds.map .dat) := fun fx up stk s σ H h i => by
  refine ⟨fun bv e => ?_, fun e => ?_⟩
  · obtain ⟨d, e1, rfl⟩ := dat_at e
    obtain ⟨T, μ, h⟩ := h
    cases (show Dq G.K (dh T H) (.ref l) (.tuple ds) from (stk_low (s1 := up) h.stk).1) with
    | @tup a vs _ q1 q2 =>
      obtain ⟨w, e2, q3⟩ := dqAll_at q2 e1
      refine ⟨⟨vs, w, dh_le.sqT q1, e2⟩, fun x H' y => ?_⟩
      obtain ⟨rfl, y⟩ := y
      have e3 := y vs (dh_le.sqT q1)
      rw [e2] at e3
      cases e3
      exact ⟨T, μ, h.push q3⟩
  · obtain ⟨T, μ, h⟩ := h
    cases (show Dq G.K (dh T H) (.ref l) (.tuple ds) from (stk_low (s1 := up) h.stk).1) with
    | @tup a vs _ q1 q2 => exact ⟨vs, dh_le.sqT q1, by rw [e, List.length_map, dqAll_len q2]; exact Nat.le_refl _⟩
theorem itOk_str {z : Str} : ItOk G (Its z) [] ((signs z).map .dat) := fun fx up stk s σ H h i => by
  refine ⟨fun bv e => ?_, fun e => ?_⟩
  · obtain ⟨d, e1, rfl⟩ := dat_at e
    unfold signs at e1
    rw [List.getElem?_map, Array.getElem?_toList] at e1
    obtain ⟨c, e2, e3⟩ := Option.map_eq_some_iff.mp e1
    refine ⟨(Array.getElem?_eq_some_iff.mp e2).1, fun x H' y => ?_⟩
    obtain ⟨rfl, c', e4, rfl⟩ := y
    rw [e2] at e4
    cases e4
    subst e3
    exact h.scal fun _ => .str _
  · show z.cps.size ≤ i
    rw [e]
    unfold signs
    simp
theorem itOk_rng {lo c : Int} {m : Nat} : ItOk G (Itc lo c m) [] ((List.range m).map fun i => .dat (.int (lo + (i : Nat) * c))) := fun fx up stk s σ H h i => by
  refine ⟨fun bv e => ?_, fun e => ?_⟩
  · rw [List.getElem?_map] at e
    obtain ⟨j, e1, e2⟩ := Option.map_eq_some_iff.mp e
    obtain ⟨hl, e3⟩ := List.getElem?_eq_some_iff.mp e1
    rw [List.getElem_range] at e3
    subst e3
    rw [List.length_range] at hl
    refine ⟨hl, fun x H' y => ?_⟩
    obtain ⟨rfl, rfl⟩ := y
    subst e2
    exact h.scal fun _ => .int _
  · rw [List.length_map, List.length_range] at e
    exact Nat.le_of_eq e.symm
theorem itOk_rng1 {lo : Int} {m : Nat} : ItOk G (Itr lo m) [] ((List.range m).map fun i => .dat (.int (lo + (i : Nat)))) := fun fx up stk s σ H h i => by
  refine ⟨fun bv e => ?_, fun e => ?_⟩
  · rw [List.getElem?_map] at e
    obtain ⟨j, e1, e2⟩ := Option.map_eq_some_iff.mp e
    obtain ⟨hl, e3⟩ := List.getElem?_eq_some_iff.mp e1
    rw [List.getElem_range] at e3
    subst e3
    rw [List.length_range] at hl
    refine ⟨hl, fun x H' y => ?_⟩
    obtain ⟨rfl, rfl⟩ := y
    subst e2
    exact h.scal fun _ => .int _
  · rw [List.length_map, List.length_range] at e
    exact Nat.le_of_eq e.symm
/-- a sequence on top of the stack, by which of the two it is -/
theorem seq_top (h : Rel G fx ((v, av) :: stk) s σ H) (e : seqOf s av = some ds) : (∃ l, Lk G v av l ds) ∨ (∃ l, v = .ref l ∧ av = .dat (.tuple ds)) ∨ ∃ z, v = .str z ∧ av = .dat (.str z) ∧ ds = signs z := by
  cases av with
  | pk i => cases e
  | obj l => cases e
  | scr ns => cases e
  | own es =>
    cases e
    obtain ⟨T, μ, h⟩ := h
    obtain ⟨a, vs, rfl, _⟩ := h.stk.1
    exact .inl ⟨a, rfl, .inr rfl⟩
  | dat d =>
    cases d with
    | str z => cases e; exact .inr (.inr ⟨z, h.strV, rfl, rfl⟩)
    | list es =>
      cases e
      obtain ⟨T, μ, h⟩ := h
      cases (show Dq G.K (dh T H) v (.list ds) from h.stk.1) with
      | lst _ _ => exact .inl ⟨_, rfl, .inl rfl⟩
    | tuple es =>
      cases e
      obtain ⟨T, μ, h⟩ := h
      cases (show Dq G.K (dh T H) v (.tuple ds) from h.stk.1) with
      | tup _ _ => exact .inr (.inl ⟨_, rfl, rfl⟩)
    | _ => cases e
end
section
variable {X : Cx} {W : WX} {tg l e e2 : Expr} {f f1 f2 : Sx → Res AV} {fs : Sx → Res (List AV)} {pos p : Pos}
theorem fi_seq (hl : FE X W l f) : FI X W tg l (mSeqI f) := pi_imp (pi_seq hl) fun σ H R ⟨fx, stk, s, h, p⟩ =>
  ⟨fx, stk, s, h, (Post.bind p).mono (fun av s1 p v H1 h1 => by
    cases es : seqOf s1 av with
    | none => rw [es] at p; exact p.elim
    | some ds =>
      rw [es] at p
      have p : ∀ J lk H', NoPk lk → _ → ItOk (gx X) J lk (ds.map .dat) → Rel (gx X) fx (lk ++ stk) s1 σ H' → R J H' := p
      rcases seq_top h1 es with ⟨l, k⟩ | ⟨l, rfl, rfl⟩ | ⟨z, rfl, rfl, rfl⟩
      · have q := p _ _ H1 k.noPk notPk_dat (itOk_list k) h1
        obtain ⟨T, μ, h2⟩ := h1
        obtain ⟨vs, q1, _⟩ := k.look h2.stk.1
        exact .inl ⟨l, vs, k.1, SqL.of q1, q⟩
      · have q := p _ [(V.ref l, AV.dat (.tuple ds))] H1 (NoPk.cons (p := (V.ref l, AV.dat (.tuple ds))) (fun _ z => nomatch z) NoPk.nil) notPk_dat itOk_tup h1
        obtain ⟨T, μ, h2⟩ := h1
        cases (show Dq (gx X).K (dh T H1) (.ref l) (.tuple ds) from h2.stk.1) with
        | @tup a vs _ q1 q2 => exact .inr (.inl ⟨l, vs, rfl, dh_le.sqT q1, q⟩)
      · exact .inr (.inr ⟨z, rfl, p _ [] H1 NoPk.nil notPk_dat itOk_str h1.pop⟩)) fun _ _ x => x⟩
/-- ranges -/
def rgOk (i : Int) : Bool := decide (-(2 ^ 62) ≤ i) && decide (i < 2 ^ 62)
theorem rgOk_of {i : Int} (h : rgOk i = true) : -(2 ^ 62) ≤ i ∧ i < 2 ^ 62 := by
  unfold rgOk at h
  simp only [Bool.and_eq_true, decide_eq_true_eq] at h
  exact h
def rgL (lo hi : Int) : List AV := (List.range (hi - lo).toNat).map fun i => .dat (.int (lo + (i : Nat)))
def rg1 : List AV → Sx → Option (List AV × Sx)
  | [.dat (.int j)], s => if rgOk j = true then some (rgL 0 j, s) else none
  | _, _ => none
def rg2 : List AV → Sx → Option (List AV × Sx)
  | [.dat (.int i), .dat (.int j)], s => if rgOk i = true ∧ rgOk j = true then some (rgL i j, s) else none
  | _, _ => none
def rg3 : List AV → Sx → Option (List AV × Sx)
  | [.dat (.int i), .dat (.int j), .dat (.int c)], s => if c ≠ 0 ∧ c.natAbs < 1073741824 ∧ Builtin.Range.small i j c = true ∧ Builtin.Range.rangeSize i j c = (Builtin.Range.rangeSize i j c).toNat then
      some ((List.range (Builtin.Range.rangeSize i j c).toNat).map fun k => .dat (.int (i + (k : Nat) * c)), s) else none
  | _, _ => none
theorem ps1 {ps : List (V × AV)} {a : AV} (h : ps.map (·.2) = [a]) : ∃ v, ps = [(v, a)] := by
  cases ps with
  | nil => cases h
  | cons p r =>
    cases r with
    | nil => cases h; exact ⟨p.1, rfl⟩
    | cons _ _ => cases h
theorem ps2 {ps : List (V × AV)} {a b : AV} (h : ps.map (·.2) = [a, b]) : ∃ v w, ps = [(v, a), (w, b)] := by
  cases ps with
  | nil => cases h
  | cons p r =>
    rw [List.map_cons] at h
    injection h with h1 h2
    obtain ⟨w, rfl⟩ := ps1 h2
    exact ⟨p.1, w, by rw [← h1]⟩
theorem ps3 {ps : List (V × AV)} {a b c : AV} (h : ps.map (·.2) = [a, b, c]) : ∃ v w x, ps = [(v, a), (w, b), (x, c)] := by
  cases ps with
  | nil => cases h
  | cons p r =>
    rw [List.map_cons] at h
    injection h with h1 h2
    obtain ⟨w, x, rfl⟩ := ps2 h2
    exact ⟨p.1, w, x, by rw [← h1]⟩
theorem ps0 {ps : List (V × AV)} (h : ps.map (·.2) = []) : ps = [] := by
  match ps, h with
  | [], _ => rfl
  | _ :: _, h => cases h
def mRng (g : List AV → Sx → Option (List AV × Sx)) (fs : Sx → Res (List AV)) : Sx → Res (List AV) := fun s => (fs s).bind fun as s1 => ofO (g as s1)
theorem notPk_rng {ks : List Nat} {g : Nat → Int} : ∀ av ∈ ks.map (fun k => AV.dat (.int (g k))), ∀ i, av ≠ .pk i := fun av h i z => by
  obtain ⟨d, _, e⟩ := List.mem_map.mp h
  rw [z] at e; cases e
theorem fi_rng1 {a : Expr} (hm : X.mg "range" = none) (ha : FA X W [a] fs) (hg : Gl X "range" := by rfl) (hs : starEach [a] X.env = [(false, eval a X.env)] := by rfl) : FI X W tg (.Call (.Name "range" p) [a] [] pos) (mRng rg1 fs) := pi_imp (pi_range1 hg hm ha hs) fun σ H R ⟨fx, stk, s, h, p⟩ =>
  ⟨fx, stk, s, h, (Post.bind p).mono (fun as s1 p ps H1 e h1 => by
    obtain ⟨items, s2, e1, q⟩ := Post.ofO p
    subst e
    unfold rg1 at e1
    split at e1
    · rename_i j ea
      split at e1
      · rename_i hc
        cases e1
        obtain ⟨v, rfl⟩ := ps1 ea
        have hv : v = .int j := Rel.intV (stk := stk) h1
        obtain ⟨c1, c2⟩ := rgOk_of hc
        refine ⟨j, by rw [hv]; rfl, c1, c2, q _ [] H1 NoPk.nil notPk_rng ?_ h1.drop⟩
        have := @itOk_rng1 (gx X) 0 j.toNat
        unfold rgL
        rw [Int.sub_zero]
        exact this
      · cases e1
    · cases e1) fun _ _ x => x⟩
theorem fi_rng2 {a b : Expr} (hm : X.mg "range" = none) (ha : FA X W [a, b] fs) (hg : Gl X "range" := by rfl) (hs : starEach [a, b] X.env = [(false, eval a X.env), (false, eval b X.env)] := by rfl) (hs2 : starEach [b] X.env = [(false, eval b X.env)] := by rfl) :
    FI X W tg (.Call (.Name "range" p) [a, b] [] pos) (mRng rg2 fs) := pi_imp (pi_range2 hg hm ha hs hs2) fun σ H R ⟨fx, stk, s, h, p⟩ =>
  ⟨fx, stk, s, h, (Post.bind p).mono (fun as s1 p ps H1 e h1 => by
    obtain ⟨items, s2, e1, q⟩ := Post.ofO p
    subst e
    unfold rg2 at e1
    split at e1
    · rename_i i j ea
      split at e1
      · rename_i hc
        cases e1
        obtain ⟨v, w, rfl⟩ := ps2 ea
        have h1' : Rel (gx X) fx ((w, .dat (.int j)) :: (v, .dat (.int i)) :: stk) _ σ H1 := h1
        have hw : w = .int j := h1'.intV
        have hv : v = .int i := h1'.pop.intV
        obtain ⟨c1, c2⟩ := rgOk_of hc.1
        obtain ⟨c3, c4⟩ := rgOk_of hc.2
        exact ⟨i, j, by rw [hv, hw]; rfl, ⟨c1, c2, c3, c4⟩, q _ [] H1 NoPk.nil notPk_rng itOk_rng1 h1.drop⟩
      · cases e1
    · cases e1) fun _ _ x => x⟩
theorem fi_rng3 {a b c : Expr} (hm : X.mg "range" = none) (ha : FA X W [a, b, c] fs) (hg : Gl X "range" := by rfl)
    (hs : starEach [a, b, c] X.env = (false, eval a X.env) :: starEach [b, c] X.env := by rfl) (hpl : (backTo pos (starEach [b, c] X.env)).any (·.1) = false := by rfl) :
    FI X W tg (.Call (.Name "range" p) [a, b, c] [] pos) (mRng rg3 fs) := pi_imp (pi_range3 hg hm ha hs hpl) fun σ H R ⟨fx, stk, s, h, p⟩ =>
  ⟨fx, stk, s, h, (Post.bind p).mono (fun as s1 p ps H1 e h1 => by
    obtain ⟨items, s2, e1, q⟩ := Post.ofO p
    subst e
    unfold rg3 at e1
    split at e1
    · rename_i i j k ea
      split at e1
      · rename_i hc
        cases e1
        obtain ⟨v, w, x, rfl⟩ := ps3 ea
        have h1' : Rel (gx X) fx ((x, .dat (.int k)) :: (w, .dat (.int j)) :: (v, .dat (.int i)) :: stk) _ σ H1 := h1
        have hx : x = .int k := h1'.intV
        have hw : w = .int j := h1'.pop.intV
        have hv : v = .int i := h1'.pop.pop.intV
        exact ⟨i, j, k, _, by rw [hv, hw, hx]; rfl, ⟨hc.1, hc.2.1, hc.2.2.1, hc.2.2.2⟩, q _ [] H1 NoPk.nil notPk_rng itOk_rng h1.drop⟩
      · cases e1
    · cases e1) fun _ _ x => x⟩

/-! ### enumerate, zip: each item in a new tuple -/
/-- a list or a tuple on the stack, by which it is -/
def Lb (G : Kx) (v : V) (av : AV) (b : Bool) (l : Addr) (ds : List PyData) : Prop := match b with
  | true => v = .ref l ∧ av = .dat (.tuple ds)
  | false => Lk G v av l ds
theorem Lb.look {G : Kx} {fx : Fx} {T : Addr → Tag} {μ : Nat → Addr} {stk : List (V × AV)} {s : Sx} {σ : L2.St} {H : Hp} {n : Nat} {v : V} {av : AV} {b : Bool} {l : Addr} {ds : List PyData} {t : Tag} (k : Lb G v av b l ds) (h : R G fx T μ stk s σ H) (hr : Rep G T μ σ H n t v av) :
    ∃ vs, SqB G.K H b l vs ∧ DqAll G.K (dh T H) vs ds := by
  cases b with
  | true =>
    obtain ⟨rfl, rfl⟩ := k
    cases (show Dq G.K (dh T H) (.ref l) (.tuple ds) from hr) with
    | @tup a vs _ q1 q2 => exact ⟨vs, dh_le.sqT q1, q2⟩
  | false =>
    obtain ⟨rfl, rfl | rfl⟩ := k
    · cases (show Dq G.K (dh T H) (.ref l) (.list ds) from hr) with
      | lst h1 h2 => exact ⟨_, SqL.of (dh_le _ _ h1), h2⟩
    · obtain ⟨a, vs, e, _, h2, h3⟩ := hr
      cases e
      exact ⟨vs, SqL.of h2, h3⟩
theorem Lb.noPk {G : Kx} {v : V} {av : AV} {b : Bool} {l : Addr} {ds : List PyData} (k : Lb G v av b l ds) : ∀ i, av ≠ .pk i := fun i z => by
  cases b with
  | true => obtain ⟨_, e⟩ := k; rw [z] at e; cases e
  | false =>
    obtain ⟨_, e | e⟩ := k
    · rw [z] at e; cases e
    · rw [z] at e; cases e
def seqB (av : AV) : Option (Bool × List PyData) := match av with
  | .dat (.list ds) => some (false, ds)
  | .own ds => some (false, ds)
  | .dat (.tuple ds) => some (true, ds)
  | _ => none
theorem seqB_top {G : Kx} {T : Addr → Tag} {μ : Nat → Addr} {σ : L2.St} {H : Hp} {n : Nat} {v : V} {av : AV} {b : Bool} {ds : List PyData} {t : Tag} (hr : Rep G T μ σ H n t v av) (e : seqB av = some (b, ds)) : ∃ l, v = .ref l ∧ Lb G v av b l ds := by
  unfold seqB at e
  split at e
  · cases e
    cases (show Dq G.K (dh T H) v (.list ds) from hr) with
    | lst _ _ => exact ⟨_, rfl, rfl, .inl rfl⟩
  · cases e
    obtain ⟨a, vs, rfl, _⟩ := hr
    exact ⟨_, rfl, rfl, .inr rfl⟩
  · cases e
    cases (show Dq G.K (dh T H) v (.tuple ds) from hr) with
    | tup _ _ => exact ⟨_, rfl, rfl, rfl⟩
  · cases e
def enumL (ds : List PyData) : List PyData := (List.range ds.length).zip ds |>.map fun p => .tuple [.int (p.1 : Nat), p.2]
theorem enumL_at {ds : List PyData} {i : Nat} {d : PyData} (h : (enumL ds)[i]? = some d) : ∃ x, ds[i]? = some x ∧ d = .tuple [.int (i : Nat), x] := by
  unfold enumL at h
  rw [List.getElem?_map] at h
  obtain ⟨p, e1, e2⟩ := Option.map_eq_some_iff.mp h
  have hz := List.getElem?_zip_eq_some.mp e1
  obtain ⟨z1, z2⟩ := hz
  obtain ⟨hl, e3⟩ := List.getElem?_eq_some_iff.mp z1
  rw [List.getElem_range] at e3
  exact ⟨p.2, z2, by rw [← e2, e3]⟩
theorem enumL_len {ds : List PyData} : (enumL ds).length = ds.length := by
  unfold enumL
  rw [List.length_map, List.length_zip, List.length_range, Nat.min_self]
theorem sqB_inj {K : PySem.W.Frag} {H : Hp} {b : Bool} {l : Addr} {vs : List V} {i : Nat} {w x : V} (q : SqB K H b l vs) (e : vs[i]? = some w) (y : ∀ xs, SqB K H b l xs → xs[i]? = some x) : x = w := by
  have := y vs q
  rw [e] at this
  exact (Option.some.inj this).symm
theorem itOk_enum {G : Kx} {v : V} {av : AV} {b : Bool} {l : Addr} {ds : List PyData} (k : Lb G v av b l ds) : ItOk G (IteB G.K b l) [(v, av)] ((enumL ds).map .dat) := fun fx up stk s σ H h i => by
  refine ⟨fun bv e => ?_, fun e => ?_⟩
  · obtain ⟨d, e1, rfl⟩ := dat_at e
    obtain ⟨x, e2, rfl⟩ := enumL_at e1
    obtain ⟨T, μ, h⟩ := h
    obtain ⟨vs, q1, q2⟩ := k.look h (stk_low (s1 := up) h.stk).1
    obtain ⟨w, e3, q3⟩ := dqAll_at q2 e2
    refine ⟨⟨vs, w, q1, e3⟩, fun x' H' y => ?_⟩
    obtain ⟨P, y1, rfl, hn, rfl, y2⟩ := y
    have ey := sqB_inj q1 e3 y2
    subst ey
    exact Rel.newTup h hn (.cons (.int _) (.cons q3 .nil))
  · obtain ⟨T, μ, h⟩ := h
    obtain ⟨vs, q1, q2⟩ := k.look h (stk_low (s1 := up) h.stk).1
    exact ⟨vs, q1, by rw [e, List.length_map, enumL_len, dqAll_len q2]⟩
def enR : List AV → Sx → Option (List AV × Sx)
  | [av], s => (seqB av).map fun p => ((enumL p.2).map .dat, s)
  | _, _ => none
theorem fi_enum {a : Expr} {elts : List Expr} {kk : Nat} {tpos : Pos} (hm : X.mg "enumerate" = none) (ha : FA X W [a] fs) (hg : Gl X "enumerate" := by rfl) (hs : starEach [a] X.env = [(false, eval a X.env)] := by rfl) :
    FI X W (.Tuple elts kk tpos) (.Call (.Name "enumerate" p) [a] [] pos) (mRng enR fs) := pi_imp (pi_enumB hg hm ha hs) fun σ H R ⟨fx, stk, s, h, p⟩ =>
  ⟨fx, stk, s, h, (Post.bind p).mono (fun as s1 p ps H1 e h1 => by
    obtain ⟨items, s2, e1, q⟩ := Post.ofO p
    subst e
    unfold enR at e1
    split at e1
    · rename_i av ea
      obtain ⟨⟨b, ds⟩, e2, e3⟩ := Option.map_eq_some_iff.mp e1
      cases e3
      obtain ⟨v, rfl⟩ := ps1 ea
      have h1' : Rel (gx X) fx ((v, av) :: stk) _ σ H1 := h1
      obtain ⟨T, μ, h2⟩ := id h1'
      obtain ⟨l, ev, k⟩ := seqB_top h2.stk.1 e2
      obtain ⟨vs, q1, q2⟩ := k.look h2 h2.stk.1
      exact ⟨b, l, vs, (show [v] = [V.ref l] by rw [show v = V.ref l from ev]), q1, q _ [(v, av)] H1 (NoPk.cons k.noPk NoPk.nil) notPk_dat (itOk_enum k) h1'⟩
    · cases e1) fun _ _ x => x⟩
def zipL (ds es : List PyData) : List PyData := (ds.zip es).map fun p => .tuple [p.1, p.2]
theorem zipL_at {ds es : List PyData} {i : Nat} {d : PyData} (h : (zipL ds es)[i]? = some d) : ∃ x y, ds[i]? = some x ∧ es[i]? = some y ∧ d = .tuple [x, y] := by
  unfold zipL at h
  rw [List.getElem?_map] at h
  obtain ⟨p, e1, e2⟩ := Option.map_eq_some_iff.mp h
  obtain ⟨z1, z2⟩ := List.getElem?_zip_eq_some.mp e1
  exact ⟨p.1, p.2, z1, z2, e2.symm⟩
theorem itOk_zip {G : Kx} {v v' : V} {av av' : AV} {b b' : Bool} {l l' : Addr} {ds es : List PyData} (k : Lb G v av b l ds) (k' : Lb G v' av' b' l' es) : ItOk G (Itz2 G.K b l b' l') [(v', av'), (v, av)] ((zipL ds es).map .dat) := fun fx up stk s σ H h i => by
  refine ⟨fun bv e => ?_, fun e => ?_⟩
  · obtain ⟨d, e1, rfl⟩ := dat_at e
    obtain ⟨x, y, e2, e2', rfl⟩ := zipL_at e1
    obtain ⟨T, μ, h⟩ := h
    obtain ⟨vs, q1, q2⟩ := k.look h (stk_low (s1 := up) h.stk).2.1
    obtain ⟨ws, q1', q2'⟩ := k'.look h (stk_low (s1 := up) h.stk).1
    obtain ⟨w, e3, q3⟩ := dqAll_at q2 e2
    obtain ⟨w', e3', q3'⟩ := dqAll_at q2' e2'
    refine ⟨⟨vs, ws, w, w', q1, q1', e3, e3'⟩, fun x' H' yy => ?_⟩
    obtain ⟨P, y1, y1', rfl, hn, rfl, y2, y2'⟩ := yy
    have ey := sqB_inj q1 e3 y2
    have ey' := sqB_inj q1' e3' y2'
    subst ey ey'
    exact Rel.newTup h hn (.cons q3 (.cons q3' .nil))
  · obtain ⟨T, μ, h⟩ := h
    obtain ⟨vs, q1, q2⟩ := k.look h (stk_low (s1 := up) h.stk).2.1
    obtain ⟨ws, q1', q2'⟩ := k'.look h (stk_low (s1 := up) h.stk).1
    refine ⟨vs, ws, q1, q1', ?_⟩
    rw [e, List.length_map, dqAll_len q2, dqAll_len q2']
    unfold zipL
    rw [List.length_map, List.length_zip]
def zpR : List AV → Sx → Option (List AV × Sx)
  | [av, bv], s => match seqB av, seqB bv with
    | some p, some q => some ((zipL p.2 q.2).map .dat, s)
    | _, _ => none
  | _, _ => none
theorem fi_zip {a b : Expr} {elts : List Expr} {kk : Nat} {tpos : Pos} (hm : X.mg "zip" = none) (ha : FA X W [a, b] fs) (hg : Gl X "zip" := by rfl) (hs : starEach [a, b] X.env = (false, eval a X.env) :: starEach [b] X.env := by rfl)
    (hpl : (backTo pos (starEach [b] X.env)).any (·.1) = false := by rfl) :
    FI X W (.Tuple elts kk tpos) (.Call (.Name "zip" p) [a, b] [] pos) (mRng zpR fs) := pi_imp (pi_zip2 hg hm ha hs hpl) fun σ H R ⟨fx, stk, s, h, p⟩ =>
  ⟨fx, stk, s, h, (Post.bind p).mono (fun as s1 p ps H1 e h1 => by
    obtain ⟨items, s2, e1, q⟩ := Post.ofO p
    subst e
    unfold zpR at e1
    split at e1
    · rename_i av bv ea
      split at e1
      · rename_i p1 p2 e2 e3
        cases e1
        obtain ⟨v, w, rfl⟩ := ps2 ea
        have h1' : Rel (gx X) fx ((w, bv) :: (v, av) :: stk) _ σ H1 := h1
        obtain ⟨T, μ, h2⟩ := id h1'
        obtain ⟨l, ev, k⟩ := seqB_top (b := p1.1) (ds := p1.2) h2.stk.2.1 e2
        obtain ⟨l', ev', k'⟩ := seqB_top (b := p2.1) (ds := p2.2) h2.stk.1 e3
        obtain ⟨vs, q1, q2⟩ := k.look h2 h2.stk.2.1
        obtain ⟨ws, q1', q2'⟩ := k'.look h2 h2.stk.1
        exact ⟨p1.1, l, p2.1, l', vs, ws, (show [v, w] = [V.ref l, V.ref l'] by rw [show v = V.ref l from ev, show w = V.ref l' from ev']), q1, q1', q _ [(w, bv), (v, av)] H1 (NoPk.cons k'.noPk (NoPk.cons k.noPk NoPk.nil)) notPk_dat (itOk_zip k k') h1'⟩
      · cases e1
    · cases e1) fun _ _ x => x⟩
end
end Fe

/-! Fe10: for, while, list comprehensions. -/
namespace Fe
open PySem PySem.Spec PyProof.Rows L2

def floop (g : AV → Sx → Res Unit) (b : Sx → Res Fl) : List AV → Sx → Res Fl
  | [], s => .ok .next s
  | x :: xs, s => (g x s).bind fun _ s1 => (b s1).bind fun fl s2 => match fl with
    | .next => floop g b xs s2
    | .cont => floop g b xs s2
    | .brk => .ok .next s2
    | .ret av => .ok (.ret av) s2
def mFor (it : Sx → Res (List AV)) (g : AV → Sx → Res Unit) (b : Sx → Res Fl) : Sx → Res Fl := fun s => (it s).bind fun items s1 => floop g b items s1
def wloop (c : Sx → Res Bool) (b : Sx → Res Fl) : Nat → Sx → Res Fl
  | 0, _ => .stuck
  | n + 1, s => (c s).bind fun k s1 => if k = true then (b s1).bind fun fl s2 => match fl with
      | .next => wloop c b n s2
      | .cont => wloop c b n s2
      | .brk => .ok .next s2
      | .ret av => .ok (.ret av) s2
    else .ok .next s1
section
variable {X : Cx} {W : WX} {tg iter c : Expr} {body : List Stmt} {pos : Pos} {it : Sx → Res (List AV)} {g : AV → Sx → Res Unit} {b : Sx → Res Fl} {ft : Sx → Res Bool} {vs : List Nat}
theorem Rel.dropUnder {G : Kx} {fx : Fx} {lk stk : List (V × AV)} {s : Sx} {σ : L2.St} {H : Hp} {v : V} {av : AV} (h : Rel G fx ((v, av) :: (lk ++ stk)) s σ H) : Rel G fx ((v, av) :: stk) s σ H := by
  obtain ⟨T, μ, h⟩ := h
  have q := h.stk.1
  have h0 : R G fx T μ stk s σ H := h.pop.drop
  cases av with
  | dat d => exact ⟨T, μ, h0.push q⟩
  | obj l => exact ⟨T, μ, h0.push q⟩
  | pk i => exact ⟨T, μ, h0.push q⟩
  | scr ns => exact ⟨T, μ, h0.push q⟩
  | own ds =>
    obtain ⟨a, vs, e, hT, hH, hd⟩ := q
    by_cases hl : lk = []
    · subst hl; exact ⟨T, μ, h⟩
    have hlen : stk.length < (lk ++ stk).length := by
      rw [List.length_append]
      have : 0 < lk.length := List.length_pos_iff.mpr hl
      omega
    have nd : T a ≠ .data := by rw [hT]; exact fun z => nomatch z
    have cc : Chg T (Tset T a (.stk stk.length)) H H (fun b => b = a) := chg_tag nd
    have lv : ∀ t, t ≠ .stk (lk ++ stk).length → Live T H (fun b => b = a) t := fun t ht => Live.tag (by rw [hT]; exact fun z => ht z.symm)
    exact ⟨_, _, (h0.chg cc (fun k hk => lv _ (fun z => by injection z with z; omega)) (fun _ => lv _ (fun z => nomatch z)) (fun _ => lv _ (fun z => nomatch z)) (lv _ (fun z => nomatch z))).push ⟨a, vs, e, Tset_same, hH, dqAll_le cc.le hd⟩⟩
theorem RelP.drop {G : Kx} {fx : Fx} {lk stk : List (V × AV)} {s : Sx} {σ : L2.St} {H : Hp} {P : Hp → Prop} (h : RelP G fx (lk ++ stk) s σ H P) : RelP G fx stk s σ H P := let ⟨T, μ, h, q⟩ := h; ⟨T, μ, h.drop, q⟩
/-- a statement within a loop: what lies below is the loop's -/
theorem ΦS.under {G : Kx} {fx : Fx} {lk stk : List (V × AV)} {D : Ends} {fl : Fl} {s : Sx} (h : ΦS G fx stk D fl s) : ΦS G fx (lk ++ stk) D fl s := by
  cases fl with
  | next => exact fun σ' H' q => h σ' H' q.drop
  | brk => exact fun σ' H' q => h σ' H' q.drop
  | cont => exact fun σ' H' q => h σ' H' q.drop
  | ret av => exact fun v σ' H' q => h v σ' H' q.dropUnder
theorem XwS.under {G : Kx} {W : WX} {fx : Fx} {lk stk : List (V × AV)} {e : Exc} {s : Sx} (h : XwS G W fx stk e s) : XwS G W fx (lk ++ stk) e s := fun c d σ H' q => h c d σ H' q.drop
theorem fs_for (hp : PassesOwn (model X.prog X.w) X.A X.env X.xe) (hc : X.calm = true) (hi : FI X W tg iter it) (hg : FG X W vs tg g) (hb : FSs X W body b) (hs : ∀ x, foldedSetIterable iter X.env x = pure x := by intro _; rfl) : FS X W (.For tg iter body [] pos) (mFor it g b) :=
  ps_imp (ps_for hp hc hi hg hb hs) fun D σ H ⟨fx, stk, s, hn, h, p⟩ => ⟨fx, stk, s, h, (Post.bind p).mono (fun items s1 p J lk H1 hlk hit ok h1 => by
    refine ⟨fun i m σ H => m = items.length - i ∧ i ≤ items.length ∧ ∃ s, Rel (gx X) fx (lk ++ stk) s σ H ∧ Post (floop g b (items.drop i) s) (ΦS (gx X) fx stk D) (XwS (gx X) W fx stk), ⟨_, rfl, Nat.zero_le _, s1, h1, by rw [List.drop_zero]; exact p⟩, ?_⟩
    rintro i m σ2 H2 ⟨rfl, hi, s2, h2, p2⟩
    obtain ⟨o1, o2⟩ := ok fx [] stk s2 σ2 H2 h2 i
    by_cases hlt : i < items.length
    · have ex : items[i]? = some items[i] := List.getElem?_eq_getElem hlt
      obtain ⟨q1, q2⟩ := o1 _ ex
      rw [List.drop_eq_getElem_cons hlt] at p2
      have p3 := Post.bind p2
      refine .inr ⟨q1, fun σ' H' => ∃ s, Rel (gx X) fx (lk ++ stk) s σ' H' ∧ Post (floop g b (items.drop (i + 1)) s) (ΦS (gx X) fx stk D) (XwS (gx X) W fx stk), fun σ' H' ⟨s', h', p'⟩ => ⟨items.length - (i + 1), by omega, rfl, hlt, s', h', p'⟩, fun x H' y => ?_⟩
      have h3 := q2 x H' y
      refine ⟨fx, lk ++ stk, s2, items[i], NoPk.cons (hit _ (List.mem_of_getElem? ex)) (hlk.append hn), h3, p3.mono (fun _ s4 p4 σ' H' _ h4 => ?_) fun _ _ x => x.under⟩
      refine ⟨fx, lk ++ stk, s4, hlk.append hn, h4, (Post.bind p4).mono (fun fl s5 p5 => ?_) fun _ _ x => x.under⟩
      cases fl with
      | next => exact fun σ' H' h' => ⟨s5, h', p5⟩
      | cont => exact fun σ' H' h' => ⟨s5, h', p5⟩
      | brk => exact fun σ' H' h' => p5 σ' H' h'.drop
      | ret av => exact fun v σ' H' h' => p5 v σ' H' h'.dropUnder
    · have e : i = items.length := by omega
      rw [e, List.drop_length] at p2
      exact .inl ⟨o2 e, p2 σ2 H2 h2.drop⟩) fun _ _ x => x.to⟩
theorem fs_while (n : Nat) (hp : PassesOwn (model X.prog X.w) X.A X.env X.xe) (hc : FT X W c ft) (hb : FSs X W body b) : FS X W (.While c body [] pos) (wloop ft b n) :=
  ps_imp (ps_while hp hc hb) fun D σ H ⟨fx, stk, s, hn, h, p⟩ => by
    refine ⟨fun m σ H => ∃ s, Rel (gx X) fx stk s σ H ∧ Post (wloop ft b m s) (ΦS (gx X) fx stk D) (XwS (gx X) W fx stk), ⟨n, s, h, p⟩, ?_⟩
    rintro m σ2 H2 ⟨s2, h2, p2⟩
    cases m with
    | zero => exact p2.elim
    | succ m =>
      refine ⟨fx, stk, s2, h2, (Post.bind p2).mono (fun k s3 p3 H3 h3 => ?_) fun _ _ x => x.to⟩
      cases k with
      | false => exact p3 σ2 H3 h3
      | true =>
        rw [if_pos rfl]
        refine ⟨fun σ' H' => ∃ s, Rel (gx X) fx stk s σ' H' ∧ Post (wloop ft b m s) (ΦS (gx X) fx stk D) (XwS (gx X) W fx stk), fun σ' H' q => ⟨m, Nat.lt_succ_self _, q⟩, fx, stk, s3, hn, h3, (Post.bind (show Post ((b s3).bind _) _ _ from p3)).mono (fun fl s5 p5 => ?_) fun _ _ x => x⟩
        cases fl with
        | next => exact fun σ' H' h' => ⟨s5, h', p5⟩
        | cont => exact fun σ' H' h' => ⟨s5, h', p5⟩
        | brk => exact fun σ' H' h' => p5 σ' H' h'
        | ret av => exact fun v σ' H' h' => p5 v σ' H' h'
end

/-! ### list comprehensions -/
def noX {α : Type} : Res α → Res α
  | .exc _ _ => .stuck
  | r => r
theorem Post.noX {α : Type} {r : Res α} {Φ : α → Sx → Prop} {Ξ Ξ' : Exc → Sx → Prop} (h : Post (Fe.noX r) Φ Ξ) : Post r Φ Ξ' := by
  cases r <;> first | exact h | exact (show False from h).elim
/-- the slots of the block's own names forgotten -/
def wipeE (E : List (Option AV)) : List Nat → List (Option AV)
  | [] => E
  | v :: vs => (wipeE E vs).set v none
def wipeS (vs : List Nat) (s : Sx) : Sx := { s with env := wipeE s.env vs }
/-- .. and back, where what stood there was data -/
def keepD : Option AV → Option AV
  | some (.dat d) => some (.dat d)
  | some (.obj l) => some (.obj l)
  | some (.scr l) => some (.scr l)
  | _ => none
def backE (E0 E : List (Option AV)) : List Nat → List (Option AV)
  | [] => E
  | v :: vs => match E0[v]? with
    | some o => (backE E0 E vs).set v (keepD o)
    | none => backE E0 E vs
def backS (vs : List Nat) (s0 s : Sx) : Sx := { s with env := backE s0.env s.env vs }
def cloop (vs : List Nat) (g : AV → Sx → Res Unit) (t : Sx → Res Bool) (e : Sx → Res AV) : List AV → List PyData → Sx → Res (List PyData)
  | [], acc, s => .ok acc (wipeS vs s)
  | x :: xs, acc, s => (noX (g x (wipeS vs s))).bind fun _ s1 => (noX (t s1)).bind fun k s2 => if k = true then (noX (e s2)).bind fun av s3 => (match av with
      | .dat d => if acc.length < LIM then cloop vs g t e xs (acc ++ [d]) s3 else .stuck
      | _ => .stuck) else cloop vs g t e xs acc s2
def mLc (vs : List Nat) (it : Sx → Res (List AV)) (g : AV → Sx → Res Unit) (t : Sx → Res Bool) (e : Sx → Res AV) : Sx → Res AV := fun s => (it s).bind fun items s1 => (noX (cloop vs g t e items [] s1)).bind fun ds s2 => .ok (.own ds) (backS vs s1 s2)
section
variable {G : Kx} {fx : Fx} {T : Addr → Tag} {μ : Nat → Addr} {stk : List (V × AV)} {s s' : Sx} {σ σ' : L2.St} {H : Hp} {v : V} {av : AV} {vs : List Nat}
theorem wipeE_len {E : List (Option AV)} : ∀ {vs : List Nat}, (wipeE E vs).length = E.length
  | [] => rfl
  | v :: vs => by rw [wipeE, List.length_set, wipeE_len]
theorem wipeE_at {E : List (Option AV)} {j : Nat} : ∀ {vs : List Nat}, (wipeE E vs)[j]? = if j ∈ vs ∧ j < E.length then some none else E[j]?
  | [] => by simp [wipeE]
  | v :: vs => by
    rw [wipeE]
    by_cases hv : v = j
    · subst hv
      by_cases hl : v < E.length
      · rw [List.getElem?_set_self (by rw [wipeE_len]; exact hl), if_pos ⟨List.mem_cons_self .., hl⟩]
      · rw [List.getElem?_eq_none (by rw [List.length_set, wipeE_len]; omega), if_neg (fun z => hl z.2), List.getElem?_eq_none (by omega)]
    · rw [List.getElem?_set_ne hv, wipeE_at]
      have e : (j ∈ v :: vs) ↔ j ∈ vs := ⟨fun z => (List.mem_cons.mp z).elim (fun e => (hv e.symm).elim) id, fun z => List.mem_cons_of_mem _ z⟩
      by_cases h : j ∈ vs ∧ j < E.length
      · rw [if_pos h, if_pos ⟨e.mpr h.1, h.2⟩]
      · rw [if_neg h, if_neg (fun z => h ⟨e.mp z.1, z.2⟩)]
theorem R.forgets (h : R G fx T μ stk s σ H) : ∀ vs : List Nat, R G fx T μ stk (wipeS vs s) σ H
  | [] => h
  | v :: vs => (R.forgets h vs).forget v
theorem R.wiped (hn : NoPk stk) (h : R G fx T μ stk s σ H) : R G fx T μ stk (wipeS vs s) (L2.wipe σ vs) H := by
  refine (h.forgets vs).sigma hn (wipe_length σ vs) fun i av e => ?_
  have e2 : (wipeE s.env vs)[i]? = some (some av) := e
  rw [wipeE_at] at e2
  rw [wipe_at]
  split at e2
  · cases e2
  · rename_i hh
    rw [if_neg (fun z => hh ⟨z.1, by rw [h.len]; exact z.2⟩)]
/-- slots' data come back -/
structure Held (G : Kx) (fx : Fx) (s0 : Sx) (σ : L2.St) : Prop where
  len : s0.env.length = σ.length
  at_ : ∀ i av, s0.env[i]? = some (some av) → keepD (some av) ≠ none → ∃ v, σ[i]? = some (some v) ∧ ∀ (T : Addr → Tag) (μ : Nat → Addr) (σ' : L2.St) (H : Hp) (n : Nat), Le fx.B (dh T H) → (∀ l, l < fx.n0 → μ l = fx.mu0 l) → fx.n0 ≤ n → Rep G T μ σ' H n (.slot i) v av
theorem backE_len {E0 : List (Option AV)} {E : List (Option AV)} : ∀ {vs : List Nat}, (backE E0 E vs).length = E.length
  | [] => rfl
  | v :: vs => by
    rw [backE]
    split
    · rw [List.length_set, backE_len]
    · exact backE_len
theorem backE_at {E0 E : List (Option AV)} (hl : E0.length = E.length) {j : Nat} : ∀ {vs : List Nat}, (backE E0 E vs)[j]? = if j ∈ vs then (E0[j]?).map keepD else E[j]?
  | [] => by simp [backE]
  | v :: vs => by
    rw [backE]
    by_cases hv : v = j
    · subst hv
      rw [if_pos (List.mem_cons_self ..)]
      cases e0 : E0[v]? with
      | some o =>
        have hlt : v < E0.length := (List.getElem?_eq_some_iff.mp e0).1
        simp only []
        rw [List.getElem?_set_self (by rw [backE_len]; omega)]
        rfl
      | none =>
        simp only []
        have hge : E0.length ≤ v := List.getElem?_eq_none_iff.mp e0
        rw [List.getElem?_eq_none (by rw [backE_len]; omega)]
        rfl
    · have e : (j ∈ v :: vs) ↔ j ∈ vs := ⟨fun z => (List.mem_cons.mp z).elim (fun e => (hv e.symm).elim) id, fun z => List.mem_cons_of_mem _ z⟩
      have rest : (backE E0 E vs)[j]? = if j ∈ v :: vs then (E0[j]?).map keepD else E[j]? := by
        rw [backE_at hl]
        by_cases h : j ∈ vs
        · rw [if_pos h, if_pos (e.mpr h)]
        · rw [if_neg h, if_neg (fun z => h (e.mp z))]
      split
      · rw [List.getElem?_set_ne hv]; exact rest
      · exact rest
theorem keepD_some {o : Option AV} {av : AV} (h : keepD o = some av) : o = some av := by
  unfold keepD at h
  split at h <;> first | (cases h; rfl) | cases h
theorem R.back {s0 : Sx} (hd : Held G fx s0 σ) (hn : NoPk stk) (h : R G fx T μ stk s (L2.wipe σ vs) H) : R G fx T μ stk (backS vs s0 s) σ H := by
  have hl : s0.env.length = s.env.length := by rw [hd.len, h.len, wipe_length]
  refine ⟨h.stk.sig hn, by show (backE s0.env s.env vs).length = _; rw [backE_len, h.len, wipe_length], fun i av e => ?_, h.sto, h.fr, h.B, h.n0, h.mu⟩
  have e2 : (backE s0.env s.env vs)[i]? = some (some av) := e
  rw [backE_at hl] at e2
  by_cases hi : i ∈ vs
  · rw [if_pos hi] at e2
    obtain ⟨o, e3, e4⟩ := Option.map_eq_some_iff.mp e2
    have e5 := keepD_some e4
    subst e5
    obtain ⟨v, q1, q2⟩ := hd.at_ i av e3 (by rw [e4]; exact fun z => nomatch z)
    refine ⟨fun j z => ?_, v, q1, q2 T μ σ H _ (fun a o e => dh_some.mpr (h.B a o e)) h.mu h.n0⟩
    subst z
    cases e4
  · rw [if_neg hi] at e2
    obtain ⟨q1, v, q2, q3⟩ := h.env i av e2
    rw [wipe_at, if_neg (fun z => hi z.1)] at q2
    exact ⟨q1, v, q2, q3.sig q1⟩
/-- what is known of a frame holds the slots' data -/
theorem Rel.held {s1 : List (V × AV)} (h : Rel G fx s1 s σ H) : ∃ fx', Rel G fx' s1 s σ H ∧ Held G fx' s σ ∧ ∀ r' s' σ' H', Rel G fx' r' s' σ' H' → Rel G fx r' s' σ' H' := by
  obtain ⟨T, μ, h⟩ := h
  refine ⟨⟨fx.fr, dh T H, s.sto.length, μ⟩, ⟨T, μ, h.stk, h.len, h.env, h.sto, h.fr, fun a o e => dh_some.mp e, Nat.le_refl _, fun _ _ => rfl⟩, ⟨h.len, fun i av e hk => ?_⟩, fun r' s' σ' H' ⟨U, ν, h'⟩ => ⟨U, ν, h'.stk, h'.len, h'.env, h'.sto, h'.fr, fun a o e => h'.B a o (dh_some.mpr (h.B a o e)), Nat.le_trans h.n0 h'.n0, fun l hl => (h'.mu l (Nat.lt_of_lt_of_le hl h.n0)).trans (h.mu l hl)⟩⟩
  obtain ⟨_, v, q1, q2⟩ := h.env i av e
  refine ⟨v, q1, fun T' μ' σ' H' n' le hm hn => ?_⟩
  cases av with
  | dat d => exact dq_le le q2
  | obj l => exact ⟨Nat.lt_of_lt_of_le q2.1 hn, by rw [hm l q2.1]; exact q2.2⟩
  | scr ns => obtain ⟨a, e, q⟩ := q2; exact ⟨a, e, le.sqL q⟩
  | own ds => exact (hk rfl).elim
  | pk i => exact (hk rfl).elim
end
end Fe

/-! Fe11: the list comprehension's rule. -/
namespace Fe
open PySem PySem.Spec PyProof.Rows L2
abbrev WF : WX := fun _ _ _ _ => False
def FTs (X : Cx) (W : WX) (ifs : List Expr) (t : Sx → Res Bool) : Prop := PTs X ifs (tTOf (gx X) W t)
def mYes : Sx → Res Bool := fun s => .ok true s
theorem pts_imp {X : Cx} {e : List Expr} {t t' : TT} (h : PTs X e t) (i : ∀ σ H Q, t' σ H Q → t σ H Q) : PTs X e t' := ⟨fun pins s σ H Q I q => h.run pins s σ H Q I (i _ _ _ q)⟩
theorem fts_nil {X : Cx} {W : WX} : FTs X W [] mYes := pts_imp pts_nil fun σ H Q ⟨fx, stk, s, h, p⟩ => p H h
theorem fts_one {X : Cx} {W : WX} {c : Expr} {t : Sx → Res Bool} (h : FT X W c t) : FTs X W [c] t := pts_one h
theorem stk_pk {G : Kx} {T : Addr → Tag} {μ : Nat → Addr} {σ : L2.St} {H : Hp} {n : Nat} : ∀ {s2 : List (V × AV)}, StkOk G T μ σ H n s2 → ∀ v i, (v, AV.pk i) ∈ s2 → σ[i]? = some (some v)
  | [], _, _, _, q => nomatch q
  | p :: r, hs, v, i, q => by
    rcases List.mem_cons.mp q with e | q
    · subst e; exact hs.1
    · exact stk_pk hs.2 v i q
theorem Rel.upd_top {G : Kx} {fx : Fx} {T : Addr → Tag} {μ : Nat → Addr} {stk : List (V × AV)} {s : Sx} {σ : L2.St} {H : Hp} {a : Addr} {ds ds' : List PyData} {vs' : List V} (h : R G fx T μ ((.ref a, .own ds) :: stk) s σ H) (hT : T a = .stk stk.length) (q : DqAll G.K (dh T H) vs' ds') : Rel G fx ((.ref a, .own ds') :: stk) s σ (upd H a (.lst vs')) := by
  have nd : T a ≠ .data := by rw [hT]; exact fun z => nomatch z
  have c : Chg T T H (upd H a (.lst vs')) (fun b => b = a) := chg_upd nd
  have lv : ∀ t, t ≠ .stk stk.length → Live T H (fun b => b = a) t := fun t ht => Live.tag (by rw [hT]; exact fun z => ht z.symm)
  exact ⟨T, μ, (h.pop.chg c (fun k hk => lv _ (fun z => by injection z with z; omega)) (fun _ => lv _ (fun z => nomatch z)) (fun _ => lv _ (fun z => nomatch z)) (lv _ (fun z => nomatch z))).push ⟨a, vs', rfl, hT, upd_same, dqAll_le c.le q⟩⟩
section
variable {X : Cx} {W : WX} {tg iter elt : Expr} {ifs : List Expr} {scope : Scope} {own : List (Str × Nat)} {pos : Pos} {it : Sx → Res (List AV)} {g : AV → Sx → Res Unit} {t : Sx → Res Bool} {f : Sx → Res AV}
theorem lc_step {vs : List Nat} : ∀ σ H Q, tOf (gx X) W (mLc vs it g t f) σ H Q → tLc (tIOf (gx X) W it) (tGOf (gx X) WF vs g) (tTOf (gx X) WF t) (tOf (gx X) WF f) vs σ H Q := fun σ H Q ⟨fx, stk, s, h, p⟩ =>
  ⟨fx, stk, s, h, (Post.bind p).mono (fun items s1 p J lk H1 hlk hit ok h1 D hD => by
    have pc : Post (cloop vs g t f items [] s1) (fun ds s2 => ∀ v H', Rel (gx X) fx ((v, .own ds) :: stk) (backS vs s1 s2) σ H' → Q v H') (fun _ _ => False) := (Post.bind p).noX
    -- the new list, the lower stack hidden, what the slots hold
    have h2 : Rel (gx X) fx (((.ref D, .own []) :: lk) ++ stk) s1 σ (upd H1 D (.lst [])) := by
      obtain ⟨T, μ, h1⟩ := h1
      exact Rel.newOwn h1 hD .nil
    have hpk : ∀ v i, (v, AV.pk i) ∈ stk → σ[i]? = some (some v) := by
      obtain ⟨T, μ, h1⟩ := h1
      exact stk_pk (stk_low h1.stk)
    obtain ⟨fx1, h3, _, back1⟩ := h2.frame
    obtain ⟨fx2, h4, hd, back2⟩ := h3.held
    have nD : ∀ acc, NoPk ((V.ref D, AV.own acc) :: lk) := fun acc => NoPk.cons (fun _ z => nomatch z) hlk
    refine ⟨fun i m H => m = items.length - i ∧ i ≤ items.length ∧ ∃ s acc, Rel (gx X) fx2 ((.ref D, .own acc) :: lk) (wipeS vs s) (wipe σ vs) H ∧ Post (cloop vs g t f (items.drop i) acc s) (fun ds s2 => ∀ v H', Rel (gx X) fx ((v, .own ds) :: stk) (backS vs s1 s2) σ H' → Q v H') (fun _ _ => False), ⟨_, rfl, Nat.zero_le _, s1, [], ?_, by rw [List.drop_zero]; exact pc⟩, ?_⟩
    · obtain ⟨T, μ, h4⟩ := h4
      exact ⟨T, μ, h4.wiped (nD [])⟩
    rintro i m H2 ⟨rfl, hi, s2, acc, h5, p5⟩
    have h5' : Rel (gx X) fx2 ([(.ref D, .own acc)] ++ (lk ++ [])) (wipeS vs s2) (wipe σ vs) H2 := by rw [List.append_nil]; exact h5
    obtain ⟨o1, o2⟩ := ok fx2 [(.ref D, .own acc)] [] _ _ H2 h5' i
    by_cases hlt : i < items.length
    · have ex : items[i]? = some items[i] := List.getElem?_eq_getElem hlt
      obtain ⟨q1, q2⟩ := o1 _ ex
      rw [List.drop_eq_getElem_cons hlt] at p5
      have p6 := (Post.bind p5).noX (Ξ' := XwS (gx X) WF fx2 ((V.ref D, AV.own acc) :: lk))
      refine .inr ⟨q1, fun H' => ∃ s acc, Rel (gx X) fx2 ((.ref D, .own acc) :: lk) (wipeS vs s) (wipe σ vs) H' ∧ Post (cloop vs g t f (items.drop (i + 1)) acc s) (fun ds s2 => ∀ v H', Rel (gx X) fx ((v, .own ds) :: stk) (backS vs s1 s2) σ H' → Q v H') (fun _ _ => False), fun H' ⟨s', acc', h', p'⟩ => ⟨items.length - (i + 1), by omega, rfl, hlt, s', acc', h', p'⟩, fun x H' y => ?_⟩
      have h6 := q2 x H' y
      rw [List.append_nil] at h6
      refine ⟨fx2, (.ref D, .own acc) :: lk, wipeS vs s2, items[i], NoPk.cons (hit _ (List.mem_of_getElem? ex)) (nD acc), h6, p6.mono (fun _ s7 p7 σ7 H7 ew h7 => ⟨ew.trans (by
        apply List.ext_getElem?
        intro j
        rw [wipe_at, wipe_at, wipe_length]
        split
        · rfl
        · rfl), ?_⟩) fun _ _ x => x⟩
      have ew' : wipe σ7 vs = wipe σ vs := ew.trans (by
        apply List.ext_getElem?
        intro j
        rw [wipe_at, wipe_at, wipe_length]
        split
        · rfl
        · rfl)
      have p8 := (Post.bind p7).noX (Ξ' := Xw (gx X) WF fx2 ((V.ref D, AV.own acc) :: lk) σ7)
      refine ⟨fx2, _, s7, h7, p8.mono (fun k s8 p9 H8 h8 => ?_) fun _ _ x => x⟩
      cases k with
      | false =>
        refine ⟨s8, acc, ?_, p9⟩
        obtain ⟨T, μ, h8⟩ := h8
        rw [← ew']
        exact ⟨T, μ, h8.wiped (nD acc)⟩
      | true =>
        rw [if_pos rfl]
        have p10 := (Post.bind (show Post ((noX (f s8)).bind _) _ _ from p9)).noX (Ξ' := Xw (gx X) WF fx2 ((V.ref D, AV.own acc) :: lk) σ7)
        refine ⟨fx2, _, s8, h8, p10.mono (fun av s9 p11 yv H9 h9 => ?_) fun _ _ x => x⟩
        cases av with
        | dat d =>
          have p11 : Post (if acc.length < LIM then cloop vs g t f (items.drop (i + 1)) (acc ++ [d]) s9 else .stuck) _ _ := p11
          by_cases hl : acc.length < LIM
          · rw [if_pos hl] at p11
            obtain ⟨T, μ, h9⟩ := h9
            have qd : Dq (gx X).K (dh T H9) yv d := h9.stk.1
            obtain ⟨a, vs', e1, e2, e3, e4⟩ := h9.stk.2.1
            cases e1
            refine ⟨vs', e3, by rw [dqAll_len e4, lim_eq]; exact hl, s9, acc ++ [d], ?_, p11⟩
            have h10 : Rel (gx X) fx2 ((.ref D, .own (acc ++ [d])) :: lk) s9 σ7 (upd H9 D (.lst (vs' ++ [yv]))) := Rel.upd_top h9.pop e2 (dqAll_append e4 (.cons qd .nil))
            obtain ⟨T', μ', h10⟩ := h10
            rw [← ew']
            exact ⟨T', μ', h10.wiped (nD _)⟩
          · rw [if_neg hl] at p11
            exact p11.elim
        | _ => exact p11.elim
    · have e : i = items.length := by omega
      rw [e, List.drop_length] at p5
      refine .inl ⟨o2 e, p5 (.ref D) H2 ?_⟩
      have h6 : Rel (gx X) fx2 ((.ref D, .own acc) :: lk) (backS vs s1 (wipeS vs s2)) σ H2 := by
        obtain ⟨T, μ, h5⟩ := h5
        exact ⟨T, μ, h5.back hd (nD acc)⟩
      have h7 := back1 (fun _ => True) mono_true _ _ σ H2 (back2 _ _ _ _ h6).p hpk
      exact Rel.dropUnder (lk := lk) h7.rel) fun _ _ x => x⟩
theorem fe_lc (hc : X.calm = true) (hN : X.N.Nodup) (hi : FI X W tg iter it) (ok : BlkOk X.N X.env.scope scope own)
    (hg : ∀ (s : Shared) (H : Hp) (C : Addr) (cl : List (Str × Addr)) (fp : List Addr), FG (X.blk s H scope (compEnvC scope cl C X.env) fp) WF (own.map (·.2)) tg g)
    (ht : ∀ (s : Shared) (H : Hp) (C : Addr) (cl : List (Str × Addr)) (fp : List Addr), FTs (X.blk s H scope (compEnvC scope cl C X.env) fp) WF ifs t)
    (he : ∀ (s : Shared) (H : Hp) (C : Addr) (cl : List (Str × Addr)) (fp : List Addr), FE (X.blk s H scope (compEnvC scope cl C X.env) fp) WF elt f) (hs : ∀ x, foldedSetIterable iter X.env x = pure x := by intro _; rfl) :
    FE X W (.ListComp elt [⟨tg, iter, ifs, 0⟩] scope pos) (mLc (own.map (·.2)) it g t f) :=
  pe_imp (pe_lc (g := tGOf (gx X) WF (own.map fun p : Str × Nat => p.2) g) (tt := tTOf (gx X) WF t) (te := tOf (gx X) WF f) hc hN hi ok (fun s H C cl fp => hg s H C cl fp) (fun s H C cl fp => ht s H C cl fp) (fun s H C cl fp => he s H C cl fp) hs) lc_step
theorem fs_setLc (i : Nat) {y : Str} {py spos : Pos} (hc : X.calm = true) (hN : X.N.Nodup) (hy : X.N[i]? = some y) (hyl : X.env.scope.names.lookup y = some .local)
    (hsw : swapsWith (.ListComp elt [⟨tg, iter, ifs, 0⟩] scope pos) (some (.Name y py)) spos.line X.env = pure true) (hi : FI X W tg iter it) (ok : BlkOk X.N X.env.scope scope own)
    (hg : ∀ (s : Shared) (H : Hp) (C : Addr) (cl : List (Str × Addr)) (fp : List Addr), FG (X.blk s H scope (compEnvC scope cl C X.env) fp) WF (own.map (·.2)) tg g)
    (ht : ∀ (s : Shared) (H : Hp) (C : Addr) (cl : List (Str × Addr)) (fp : List Addr), FTs (X.blk s H scope (compEnvC scope cl C X.env) fp) WF ifs t)
    (he : ∀ (s : Shared) (H : Hp) (C : Addr) (cl : List (Str × Addr)) (fp : List Addr), FE (X.blk s H scope (compEnvC scope cl C X.env) fp) WF elt f) (hs : ∀ x, foldedSetIterable iter X.env x = pure x := by intro _; rfl) :
    FS X W (.Assign [.Name y py] (.ListComp elt [⟨tg, iter, ifs, 0⟩] scope pos) spos) (mSet i (mLc (own.map (·.2)) it g t f)) :=
  ps_imp (ps_setLc (g := tGOf (gx X) WF (own.map fun p : Str × Nat => p.2) g) (tt := tTOf (gx X) WF t) (te := tOf (gx X) WF f) hc hN hy hyl hsw hi ok (fun s H C cl fp => hg s H C cl fp) (fun s H C cl fp => ht s H C cl fp) (fun s H C cl fp => he s H C cl fp) hs) fun D σ H ⟨fx, stk, s, hn, h, p⟩ => lc_step σ H (fun x H1 => gName i x σ H1 D.nx)
    ⟨fx, stk, s, h, (Post.bind p).mono (fun av s1 p v H1 h1 => by
      have p1 := Post.bind p
      have hp : ∀ j, av ≠ .pk j := fun j z => by subst z; exact p1
      have p' : ∀ σ' H', Rel (gx X) fx stk { s1 with env := s1.env.set i (some av) } σ' H' → D.nx σ' H' := by
        cases av with
        | pk j => exact (hp j rfl).elim
        | _ => exact p1
      refine p' _ _ ?_
      by_cases hi : i < σ.length
      · exact h1.setSlot hi hn hp
      · have e1 : σ.set i (some v) = σ := List.set_eq_of_length_le (by omega)
        rw [e1]
        obtain ⟨T, μ, h⟩ := h1
        have e2 : s1.env.set i (some av) = s1.env := List.set_eq_of_length_le (by rw [h.len]; omega)
        rw [e2]
        exact ⟨T, μ, h.pop⟩) fun _ _ x => x.to⟩
end
end Fe

/-! Fe12: defs and calls. -/
namespace Fe
open PySem PySem.Spec PyProof.Rows L2

/-- what may be handed to a def: no slot's own list -/
def argOk : AV → Bool
  | .own _ => false
  | .pk _ => false
  | _ => true
def argsOk (as : List AV) : Bool := as.all argOk
abbrev Mir := List AV → List SO → Res AV
/-- a def's promise: it gives what its mirror gives -/
def SpF (G : Kx) (n : Nat) (F : Mir) : Sp := fun vs H Q E => ∃ (fx : Fx) (ps : List (V × AV)) (sto : List SO), vs = ps.map (·.1) ∧ ps.length = n ∧ argsOk (ps.map (·.2)) = true ∧ Rel G fx ps.reverse ⟨[], sto⟩ [] H ∧
  Post (F (ps.map (·.2)) sto) (fun av s' => ∀ v H', (∀ i, av ≠ .pk i) → Rel G fx [(v, av)] ⟨[], s'.sto⟩ [] H' → Q v H') (fun e s' => ∀ c d H', RelP G fx [] ⟨[], s'.sto⟩ [] H' (RepX G e c d) → E c d H')
def mCall (n : Nat) (F : Mir) (fs : Sx → Res (List AV)) : Sx → Res AV := fun s => (fs s).bind fun as s1 => if as.length = n ∧ argsOk as = true then (match F as s1.sto with
  | .ok av s2 => .ok av { s1 with sto := s2.sto }
  | .exc e s2 => .exc e { s1 with sto := s2.sto }
  | .stuck => .stuck) else .stuck
theorem argOk_pk {av : AV} (h : argOk av = true) : ∀ i, av ≠ .pk i := fun i z => by subst z; cases h
theorem argsOk_noPk : ∀ {ps : List (V × AV)}, argsOk (ps.map (·.2)) = true → NoPk ps
  | [], _ => NoPk.nil
  | p :: r, h => by
    unfold argsOk at h
    rw [List.map_cons, List.all_cons, Bool.and_eq_true] at h
    exact NoPk.cons (argOk_pk h.1) (argsOk_noPk h.2)
theorem NoPk.rev {ps : List (V × AV)} (h : NoPk ps) : NoPk ps.reverse := fun p hp => h p (List.mem_reverse.mp hp)
/-- a def's promise where no repr is under way -/
structure FnG (P : Program) (w : World) (K : PySem.W.Frag) (mg : Str → Option Value) (base : Heap) (k : Nat) (f : Addr) (fd : FuncData) (ps : List Str) (sp : Sp) : Prop where
  len : ∀ vs H Q E, sp vs H Q E → vs.length = ps.length
  run : ∀ (A : Around) (outer : List Env) (z : Shared) (H : Hp) (args : Args) (us : List Value) (vs : List V) (Q : VK) (E : XK), A.guards = some [] → Room k A → Env0 P w K mg base A outer z H → BindsTo z fd args (ps.zip us) → Vals vs us → sp vs H Q E →
    codeAny (model P w) A (.call (.ref f) args) (CR (L2.CX P w) outer P w H z Q E) z
theorem FnG.mono {P : Program} {w : World} {K : PySem.W.Frag} {mg : Str → Option Value} {base : Heap} {j k : Nat} {f : Addr} {fd : FuncData} {ps : List Str} {sp : Sp} (F : FnG P w K mg base j f fd ps sp) (h : j ≤ k) :
    FnG P w K mg base k f fd ps sp := ⟨F.len, fun A outer z H args us vs Q E gd hr => F.run A outer z H args us vs Q E gd (hr.mono h)⟩
/-- a body's derivation gives the promise -/
theorem FnG.of {P : Program} {w : World} {K : PySem.W.Frag} {mg : Str → Option Value} {base : Heap} {k : Nat} {x qual : Str} {params : Arguments} {body : List Stmt} {scope : Scope} {dvs : List V} {kws : List (Str × V)} {f : Addr} {fd : FuncData} {N ps : List Str} {sp : Sp}
    (F : FunD K x qual params body scope dvs kws f fd) (S : FnScope N ps scope) (len : ∀ vs H Q E, sp vs H Q E → vs.length = ps.length)
    (hbody : ∀ (cdv : Value) (A : Around) (outer : List Env) (z : Shared) (H : Hp) (vs : List V) (Q : VK) (E : XK), A.guards = some [] → Room k (A.deeper (envOfC qual scope z.heap.objs.size f cdv)) → sp vs H Q E →
      ∃ t, PSs (cxOf (L2.CX P w) P w K mg base N qual scope f cdv A outer z H E) body t ∧ t { nx := fun _ H' => Q .non H', rt := Q } (L2.start N vs) H) : FnG P w K mg base (k + 1) f fd ps sp := by
  obtain ⟨oc, od, dV, kV, doc, pm, an, cdv, ct, osl, rfl, lk, hcd, _, _⟩ := F.ex
  refine ⟨len, fun A outer z H args us vs Q E gd room e0 bnd rel hsp => ?_⟩
  have hl := len vs H Q E hsp
  have kin : K.In z.heap := e0.mod.kin.keeps fun b o e => (e0.bs b o e).1
  have nolim : z.heap.NoLimit := e0.mod.nolimit.keeps fun b o e => (e0.bs b o e).1
  have kinds : ∀ y ∈ ps.zip us, scope.names.lookup y.1 = some .local ∨ (scope.names.lookup y.1 = some .cell ∧ ((cellsFrom (z.heap.objs.size + 1) scope.names []).lookup y.1).isSome = true) := by
    rintro ⟨nm, v⟩ hy
    have hin := (List.of_mem_zip hy).1
    exact (S.par nm hin).elim .inl fun q => .inr ⟨q, PySem.W.cellsFrom_some _ _ _ (.inl q)⟩
  refine codeAny_call_function room.depth (kin f _ lk) rfl S.co S.gen rfl (PySem.W.codeRec_of kin hcd) (bnd _ _ _ _ ?_)
  refine wpAny_newFunctionEnv_cells S.kind kinds fun env eenv z1 inC => ?_
  subst eenv
  refine ⟨nolim.keeps inC.toInCall.keep, codeAny_func ?_⟩
  obtain ⟨t, ht, hq⟩ := hbody cdv A outer z H vs Q E gd (room.deeper _) hsp
  have I0 := inv_start (CX := L2.CX P w) (E := E) S room.hd e0 hl rel inC
  refine wpAny_mono (ht.run [] z1 (L2.start N vs) H _ I0 hq) (fun fl z' hs => ?_) fun e z' hs => hs
  cases fl with
  | brk => exact let ⟨_, _, _, q⟩ := hs; q.elim
  | cont => exact let ⟨_, _, _, q⟩ := hs; q.elim
  | next =>
    obtain ⟨σ', H', J, q⟩ := hs
    exact ⟨.non, H', J.os, J.bare, J.base, J.hok, rfl, q⟩
  | ret u =>
    obtain ⟨v, σ', H', J, rv, q⟩ := hs
    exact ⟨v, H', J.os, J.bare, J.base, J.hok, rv, q⟩
section
variable {X : Cx} {k : Nat} {f : Addr} {fd : FuncData} {ps ks : List Str} {sp : Sp} {E : L2.St → XK} {σ : L2.St} {H : Hp} {z : Shared} {Q : VK} {us ws : List Value} {vs zs : List V} {pins : List (Addr × Obj)}
/-- the callee's run is ours -/
theorem FnG.runA {args : Args} (F : FnG X.prog X.w X.K X.mg X.base k f fd ps sp) (gd : X.A.guards = some []) (hr : Room k X.A) (hx : PassesAt (L2.CX X.prog X.w) X σ (E σ)) (I : Inv X pins σ H z) (b : BindsTo z fd args (ps.zip us)) (r : Vals vs us)
    (h : sp vs H Q (E σ)) : wpAny (model X.prog X.w) X.A (call (.ref f) args.pos args.kw) (EP X pins σ Q) X.xe z :=
  wpAny_call (codeAny_mono (F.run X.A X.stack z H args us vs Q (E σ) gd hr I.env0 b r h) fun rs z' hq => by
    cases rs with
    | error e => exact hx pins H z e z' I hq
    | ok fl => cases fl with
      | ret u => exact I.after hq
      | _ => exact hq.elim)
theorem FnG.runS (F : FnG X.prog X.w X.K X.mg X.base k f fd ps sp) (gd : X.A.guards = some []) (hr : Room k X.A) (hb : Binds X.K fd ps []) (hx : PassesAt (L2.CX X.prog X.w) X σ (E σ)) (I : Inv X pins σ H z) (r : Vals vs us)
    (h : sp vs H Q (E σ)) : wpAny (model X.prog X.w) X.A (call (.ref f) us) (EP X pins σ Q) X.xe z := by
  have hl : (us ++ []).length = ps.length := by rw [List.append_nil, ← r.length]; exact F.len vs H Q _ h
  have b := hb z us I.kIn hl
  rw [List.append_nil] at b
  exact F.runA (args := ⟨us, []⟩) gd hr hx I b r h
/-- the values in the parameters' order -/
def perm (p : List Nat) {α : Type} (l : List α) : List α := p.filterMap fun i => l[i]?
theorem vals_perm {vs : List V} {us : List Value} (r : Vals vs us) : ∀ p : List Nat, Vals (perm p vs) (perm p us)
  | [] => .nil
  | i :: p => by
    show Vals (List.filterMap _ (i :: p)) (List.filterMap _ (i :: p))
    by_cases h : i < vs.length
    · have e : vs[i]? = some vs[i] := List.getElem?_eq_getElem h
      obtain ⟨u, e2, r2⟩ := r.get e
      rw [List.filterMap_cons_some e, List.filterMap_cons_some e2]
      exact .cons r2 (vals_perm r p)
    · have e : vs[i]? = none := List.getElem?_eq_none (by omega)
      have e2 : us[i]? = none := List.getElem?_eq_none (by rw [← r.length]; omega)
      rw [List.filterMap_cons_none e, List.filterMap_cons_none e2]
      exact vals_perm r p
theorem perm_map {α β : Type} (g : α → β) (l : List α) : ∀ p : List Nat, perm p (l.map g) = (perm p l).map g
  | [] => rfl
  | i :: p => by
    show List.filterMap _ (i :: p) = (List.filterMap _ (i :: p)).map g
    cases e : l[i]? with
    | none => rw [List.filterMap_cons_none e, List.filterMap_cons_none (by rw [List.getElem?_map, e]; rfl)]; exact perm_map g l p
    | some x => rw [List.filterMap_cons_some e, List.filterMap_cons_some (b := g x) (by rw [List.getElem?_map, e]; rfl), List.map_cons]; exact congrArg _ (perm_map g l p)
/-- what a call with keywords binds: n values, the keywords' values behind them, in the order p -/
structure KBp (K : PySem.W.Frag) (fd : FuncData) (ps : List Str) (n : Nat) (ks : List Str) (p : List Nat) : Prop where
  to : ∀ (z : Shared) (us ws : List Value), K.In z.heap → us.length = n → ws.length = ks.length → BindsTo z fd ⟨us, ks.zip ws⟩ (ps.zip (perm p (us ++ ws)))
theorem FunD.kbp {K : PySem.W.Frag} {x qual : Str} {params : Arguments} {body : List Stmt} {scope : Scope} {kws : List (Str × V)} (F : FunD K x qual params body scope [] kws f fd) (n : Nat) (p : List Nat)
    (h : ∀ (kV doc pm : Value) (an : Option Addr) (cdv ct : Value) (us ws : List Value), us.length = n → ws.length = ks.length → bindArgs (PySem.W.fnOf x qual params body scope .none kV doc pm an cdv ct) ⟨us, ks.zip ws⟩ = pure (ps.zip (perm p (us ++ ws)))) : KBp K fd ps n ks p := by
  obtain ⟨oc, od, dV, kV, doc, pm, an, cdv, ct, osl, rfl, lk, hcd, hD, hK⟩ := F.ex
  rcases hD with ⟨_, rfl⟩ | ⟨e, _⟩
  · exact ⟨fun z us ws _ h1 h2 => BindsTo.of_looks fun M => by rw [h kV doc pm an cdv ct us ws h1 h2]; exact PySem.W.Looks.of_pure rfl⟩
  · exact absurd rfl e
theorem FnG.runK {n : Nat} {p : List Nat} (F : FnG X.prog X.w X.K X.mg X.base k f fd ps sp) (gd : X.A.guards = some []) (hr : Room k X.A) (hb : KBp X.K fd ps n ks p) (hx : PassesAt (L2.CX X.prog X.w) X σ (E σ)) (I : Inv X pins σ H z) (r : Vals vs us) (rz : Vals zs ws)
    (h1 : vs.length = n) (h2 : zs.length = ks.length) (h : sp (perm p (vs ++ zs)) H Q (E σ)) : wpAny (model X.prog X.w) X.A (call (.ref f) us (ks.zip ws)) (EP X pins σ Q) X.xe z :=
  F.runA (args := ⟨us, ks.zip ws⟩) gd hr hx I (hb.to z us ws I.kIn (by rw [← r.length]; exact h1) (by rw [← rz.length]; exact h2)) (vals_perm (r.append rz) p) h
end
section
variable {G : Kx} {W : WX} {fs : Sx → Res (List AV)} {F : Mir} {n : Nat}
/-- a call, at the callee's promise -/
theorem call_sp {fx : Fx} {stk : List (V × AV)} {s1 : Sx} {σ : L2.St} {H1 : Hp} {Q : VK} {ps : List (V × AV)} (h1 : Rel G fx (ps.reverse ++ stk) s1 σ H1)
    (p : Post (if (ps.map (·.2)).length = n ∧ argsOk (ps.map (·.2)) = true then (match F (ps.map (·.2)) s1.sto with
      | .ok av s2 => .ok av { s1 with sto := s2.sto }
      | .exc e s2 => .exc e { s1 with sto := s2.sto }
      | .stuck => .stuck) else .stuck) (fun av s' => ∀ v H', Rel G fx ((v, av) :: stk) s' σ H' → Q v H') (Xw G W fx stk σ)) : SpF G n F (ps.map (·.1)) H1 Q (fun c d H => W c d σ H) := by
  by_cases ha : (ps.map (·.2)).length = n ∧ argsOk (ps.map (·.2)) = true
  · rw [if_pos ha] at p
    have hnp := argsOk_noPk ha.2
    obtain ⟨fx', h2, back⟩ := h1.callee hnp.rev
    refine ⟨fx', ps, s1.sto, rfl, by rw [← ha.1, List.length_map], ha.2, h2, ?_⟩
    cases e : F (ps.map (·.2)) s1.sto with
    | stuck => rw [e] at p; exact p.elim
    | ok av s2 =>
      rw [e] at p
      exact fun v H' hv h' => p v H' (back (fun _ => True) mono_true [(v, av)] s2.sto H' (NoPk.cons hv NoPk.nil) h'.p).rel
    | exc x s2 =>
      rw [e] at p
      exact fun c d H' h' => p c d H' (back _ RepX.mono [] s2.sto H' NoPk.nil h')
  · rw [if_neg ha] at p
    exact p.elim
theorem SpF.len {vs : List V} {H : Hp} {Q : VK} {E : XK} (h : SpF G n F vs H Q E) : vs.length = n := by
  obtain ⟨fx, ps, sto, rfl, hn, _⟩ := h
  rw [List.length_map]; exact hn
end
section
variable {X : Cx} {W : WX} {k : Nat} {f : Addr} {fd : FuncData} {ps : List Str} {x : Str} {p pos : Pos} {e : Expr} {es : List Expr} {fs : Sx → Res (List AV)} {F : Mir}
/-- f(e, ..) -/
theorem fe_call {n : Nat} (H : FnG X.prog X.w X.K X.mg X.base k f fd ps (SpF (gx X) n F)) (gd : X.A.guards = some []) (hr : Room k X.A) (tk : Takes X W) (hm : X.mg x = some (.ref f)) (hk : PySem.W.keepIn X.K (.ref f) = true) (hb : Binds X.K fd ps [])
    (ha : FA X W (e :: es) fs) (hg : Gl X x := by rfl) (hdb : (x == ("__debug__" : Str)) = false := by decide) (he : starEach (e :: es) X.env = (false, eval e X.env) :: starEach es X.env := by rfl) (hpl : (backTo pos (starEach es X.env)).any (·.1) = false := by rfl) :
    FE X W (.Call (.Name x p) (e :: es) [] pos) (mCall n F fs) := pe_imp (t := tCallS (SpF (gx X) n F) (WE W) (tAOf (gx X) W fs)) ⟨fun pins z σ h0 Q I h => by
      refine wpAny_Call_Name_kw (ld_glob I hg hm ?_ hdb)
      exact PySem.W.callWith_K (h₀ := X.base) I.ok.mod.kin hk (thn (ha.run pos pins z σ h0 _ I h) fun us z1 ⟨vs, h1, I1, r, q⟩ => ⟨I1.kIn, H.runS gd hr hb (passAt tk σ) I1 r q⟩) he hpl⟩ fun σ H Q ⟨fx, stk, s, h, p⟩ =>
  ⟨fx, stk, s, h, (Post.bind p).mono (fun as s1 p ps' H1 e1 h1 => by
    subst e1
    exact call_sp h1 p) fun _ _ x => x⟩
/-- f() -/
theorem fe_call0 (H : FnG X.prog X.w X.K X.mg X.base k f fd ps (SpF (gx X) 0 F)) (gd : X.A.guards = some []) (hr : Room k X.A) (tk : Takes X W) (hm : X.mg x = some (.ref f)) (hk : PySem.W.keepIn X.K (.ref f) = true) (hb : Binds X.K fd ps [])
    (hg : Gl X x := by rfl) (hdb : (x == ("__debug__" : Str)) = false := by decide) :
    FE X W (.Call (.Name x p) [] [] pos) (mCall 0 F mNil) := pe_imp (t := tCallS (SpF (gx X) 0 F) (WE W) tNil) ⟨fun pins z σ h0 Q I h => by
      refine wpAny_Call_Name_kw (ld_glob I hg hm ?_ hdb)
      exact PySem.W.callWith_K0 I.kIn hk (H.runS (us := []) gd hr hb (passAt tk σ) I .nil h)⟩ fun σ H Q ⟨fx, stk, s, h, p⟩ => call_sp (ps := []) h p
/-- f(e, .., k = v, ..), the keywords' values put in the parameters' order by p -/
def mCallK (n m j : Nat) (F : Mir) (p : List Nat) (fs ks : Sx → Res (List AV)) : Sx → Res AV := fun s => (fs s).bind fun as s1 => (ks s1).bind fun bs s2 => if as.length = n ∧ bs.length = m then mCall j F (fun s => .ok (perm p (as ++ bs)) s) s2 else .stuck
def FK (X : Cx) (W : WX) (kws : List Keyword) (f : Sx → Res (List AV)) : Prop := PK X kws (tAOf (gx X) W f)
theorem pk_imp {X : Cx} {e : List Keyword} {t t' : TA} (h : PK X e t) (i : ∀ σ H Q, t' σ H Q → t σ H Q) : PK X e t' := ⟨fun pos pins s σ H Q I q => h.run pos pins s σ H Q I (i _ _ _ q)⟩
theorem fk_nil : FK X W [] mNil := pk_imp pk_nil fun σ H Q ⟨fx, stk, s, h, p⟩ => p [] H rfl h
theorem fk_cons {nm : Option Str} {kpos : Pos} {kws : List Keyword} {f1 : Sx → Res AV} (ha : FE X W e f1) (hr : FK X W kws fs) : FK X W (⟨nm, e, kpos⟩ :: kws) (mCons f1 fs) := pk_imp (pk_cons ha hr) fun σ H Q ⟨fx, stk, s, h, p⟩ =>
  ⟨fx, stk, s, h, (Post.bind p).mono (fun b s1 p v H1 h1 => ⟨fx, _, s1, h1, (Post.bind p).mono (fun bs s2 p ps H2 e h2 => p ((v, b) :: ps) H2 (by rw [List.map_cons, e]) (by rw [List.reverse_cons, List.append_assoc]; exact h2)) fun _ _ x => x.up⟩) fun _ _ x => x⟩
/-- the stack, its values in another order: none of them is an own list -/
theorem StkOk.reps {G : Kx} {T : Addr → Tag} {μ : Nat → Addr} {σ : L2.St} {H : Hp} {m : Nat} : ∀ {qs : List (V × AV)}, argsOk (qs.map (·.2)) = true → (∀ q ∈ qs, ∃ t, Rep G T μ σ H m t q.1 q.2) → ∀ {stk : List (V × AV)}, StkOk G T μ σ H m stk → StkOk G T μ σ H m (qs ++ stk)
  | [], _, _, _, h => h
  | q :: qs, ha, hq, stk, h => by
    unfold argsOk at ha
    rw [List.map_cons, List.all_cons, Bool.and_eq_true] at ha
    refine ⟨?_, StkOk.reps (qs := qs) ha.2 (fun z hz => hq z (List.mem_cons_of_mem _ hz)) h⟩
    obtain ⟨t, r⟩ := hq q (List.mem_cons_self ..)
    obtain ⟨v, av⟩ := q
    cases av with
    | dat d => exact r
    | obj l => exact r
    | scr l => exact r
    | own l => exact absurd ha.1 Bool.false_ne_true
    | pk l => exact absurd ha.1 Bool.false_ne_true
theorem StkOk.rep' {G : Kx} {T : Addr → Tag} {μ : Nat → Addr} {σ : L2.St} {H : Hp} {m : Nat} : ∀ {stk : List (V × AV)}, StkOk G T μ σ H m stk → ∀ p ∈ stk, ∃ t, Rep G T μ σ H m t p.1 p.2
  | p :: r, h, q, hq => by
    rcases List.mem_cons.mp hq with z | hq
    · subst z
      exact ⟨_, h.1⟩
    · exact StkOk.rep' h.2 q hq
theorem perm_mem {α : Type} {l : List α} {p : List Nat} {x : α} (h : x ∈ perm p l) : x ∈ l := by
  obtain ⟨i, _, e⟩ := List.mem_filterMap.mp h
  exact List.mem_of_getElem? e
theorem Rel.perm {G : Kx} {fx : Fx} {stk ps qs : List (V × AV)} {s : Sx} {σ : L2.St} {H : Hp} (h : Rel G fx (ps.reverse ++ stk) s σ H) (hm : ∀ q ∈ qs, q ∈ ps) (ha : argsOk (qs.map (·.2)) = true) : Rel G fx (qs.reverse ++ stk) s σ H := by
  obtain ⟨T, μ, h⟩ := h
  have ha' : argsOk (qs.reverse.map (·.2)) = true := by
    unfold argsOk at ha ⊢
    rw [List.map_reverse, List.all_reverse]; exact ha
  refine ⟨T, μ, ⟨StkOk.reps ha' (fun q hq => h.stk.rep' q (List.mem_append_left _ (List.mem_reverse.mpr (hm q (List.mem_reverse.mp hq))))) (stk_low h.stk), h.len, h.env, h.sto, h.fr, h.B, h.n0, h.mu⟩⟩
theorem callK_sp {G : Kx} {W : WX} {F : Mir} {n m j : Nat} {p : List Nat} {fx : Fx} {stk : List (V × AV)} {s2 : Sx} {σ : L2.St} {H2 : Hp} {Q : VK} {ps qs : List (V × AV)} (h2 : Rel G fx (qs.reverse ++ (ps.reverse ++ stk)) s2 σ H2)
    (pp : Post (if (ps.map (·.2)).length = n ∧ (qs.map (·.2)).length = m then mCall j F (fun s => .ok (Fe.perm p (ps.map (·.2) ++ qs.map (·.2))) s) s2 else .stuck) (fun av s' => ∀ v H', Rel G fx ((v, av) :: stk) s' σ H' → Q v H') (Xw G W fx stk σ)) :
    (ps.map (·.1)).length = n ∧ (qs.map (·.1)).length = m ∧ SpF G j F (Fe.perm p (ps.map (·.1) ++ qs.map (·.1))) H2 Q (fun c d H => W c d σ H) := by
  by_cases hl : (ps.map (·.2)).length = n ∧ (qs.map (·.2)).length = m
  · rw [if_pos hl] at pp
    refine ⟨by rw [← hl.1, List.length_map, List.length_map], by rw [← hl.2, List.length_map, List.length_map], ?_⟩
    have e1 : Fe.perm p (ps.map (·.2) ++ qs.map (·.2)) = (Fe.perm p (ps ++ qs)).map (·.2) := by rw [← List.map_append, perm_map]
    have e2 : Fe.perm p (ps.map (·.1) ++ qs.map (·.1)) = (Fe.perm p (ps ++ qs)).map (·.1) := by rw [← List.map_append, perm_map]
    rw [e1] at pp
    rw [e2]
    have pp : Post (if ((Fe.perm p (ps ++ qs)).map (·.2)).length = j ∧ argsOk ((Fe.perm p (ps ++ qs)).map (·.2)) = true then (match F ((Fe.perm p (ps ++ qs)).map (·.2)) s2.sto with
      | .ok av s3 => .ok av { s2 with sto := s3.sto }
      | .exc e s3 => .exc e { s2 with sto := s3.sto }
      | .stuck => .stuck) else .stuck) _ _ := pp
    by_cases ha : argsOk ((Fe.perm p (ps ++ qs)).map (·.2)) = true
    · have h3 : Rel G fx ((ps ++ qs).reverse ++ stk) s2 σ H2 := by rw [List.reverse_append, List.append_assoc]; exact h2
      exact call_sp (h3.perm (fun q hq => perm_mem hq) ha) pp
    · rw [if_neg (fun z => ha z.2)] at pp
      exact pp.elim
  · rw [if_neg hl] at pp
    exact pp.elim
theorem fe_callK {n m j : Nat} {kws : List Keyword} {ks : List Str} {gs : Sx → Res (List AV)} (pr : List Nat) (H : FnG X.prog X.w X.K X.mg X.base k f fd ps (SpF (gx X) j F)) (gd : X.A.guards = some []) (hr : Room k X.A) (tk : Takes X W) (hm : X.mg x = some (.ref f)) (hk : PySem.W.keepIn X.K (.ref f) = true)
    (hb : KBp X.K fd ps n ks pr) (ha : FA X W (e :: es) fs) (hkw : FK X W kws gs) (hkn : ks.length = m := by rfl) (hall : (backToKw pos (keywordEach kws X.env)).all (·.1.isSome) = true := by rfl) (hks : (backToKw pos (keywordEach kws X.env)).filterMap (·.1) = ks := by rfl)
    (hg : Gl X x := by rfl) (hdb : (x == ("__debug__" : Str)) = false := by decide) (he : starEach (e :: es) X.env = (false, eval e X.env) :: starEach es X.env := by rfl)
    (hpl : ((backTo pos (starEach (e :: es) X.env)).any (·.1) || (backToKw pos (keywordEach kws X.env)).any (·.1.isNone)) = false := by rfl) :
    FE X W (.Call (.Name x p) (e :: es) kws pos) (mCallK n m j F pr fs gs) := pe_imp (t := fun σ H Q => tAOf (gx X) W fs σ H fun vs H1 => tAOf (gx X) W gs σ H1 fun zs H2 => vs.length = n ∧ zs.length = m ∧ SpF (gx X) j F (Fe.perm pr (vs ++ zs)) H2 Q (WE W σ)) ⟨fun pins z σ h0 Q I h => by
      refine wpAny_Call_Name_kw (ld_glob I hg hm ?_ hdb)
      refine PySem.W.callWith_KW (h₀ := X.base) I.ok.mod.kin hk hall (thn (ha.run pos pins z σ h0 _ I h) fun us z1 ⟨vs, h1, I1, r, q⟩ => ?_) hpl he
      refine thn (hkw.run pos pins z1 σ h1 _ I1 q) fun ws z2 ⟨zs, h2, I2, rz, l1, l2, sp⟩ => ⟨I2.kIn, ?_⟩
      rw [hks]
      exact H.runK gd hr hb (passAt tk σ) I2 r rz l1 (l2.trans hkn.symm) sp⟩ fun σ H Q ⟨fx, stk, s, h, p⟩ =>
  ⟨fx, stk, s, h, (Post.bind p).mono (fun as s1 p ps H1 e1 h1 => ⟨fx, _, s1, h1, (Post.bind p).mono (fun bs s2 p qs H2 e2 h2 => by
    subst e1 e2
    exact callK_sp h2 p) fun e s' x c d H' ⟨T, μ, hr', hq⟩ => x c d H' ⟨T, μ, hr'.drop, hq⟩⟩) fun _ _ x => x⟩
theorem fe_callK0 {m j : Nat} {kws : List Keyword} {ks : List Str} {gs : Sx → Res (List AV)} (pr : List Nat) (H : FnG X.prog X.w X.K X.mg X.base k f fd ps (SpF (gx X) j F)) (gd : X.A.guards = some []) (hr : Room k X.A) (tk : Takes X W) (hm : X.mg x = some (.ref f)) (hk : PySem.W.keepIn X.K (.ref f) = true)
    (hb : KBp X.K fd ps 0 ks pr) (hkw : FK X W kws gs) (hkn : ks.length = m := by rfl) (hall : (backToKw pos (keywordEach kws X.env)).all (·.1.isSome) = true := by rfl) (hks : (backToKw pos (keywordEach kws X.env)).filterMap (·.1) = ks := by rfl)
    (hg : Gl X x := by rfl) (hdb : (x == ("__debug__" : Str)) = false := by decide)
    (hpl : ((backTo pos (starEach [] X.env)).any (·.1) || (backToKw pos (keywordEach kws X.env)).any (·.1.isNone)) = false := by rfl) :
    FE X W (.Call (.Name x p) [] kws pos) (mCallK 0 m j F pr mNil gs) := pe_imp (t := fun σ H Q => tAOf (gx X) W gs σ H fun zs H2 => zs.length = m ∧ SpF (gx X) j F (Fe.perm pr ([] ++ zs)) H2 Q (WE W σ)) ⟨fun pins z σ h0 Q I h => by
      refine wpAny_Call_Name_kw (ld_glob I hg hm ?_ hdb)
      refine PySem.W.callWith_KW0 (h₀ := X.base) I.ok.mod.kin hk hall (thn (hkw.run pos pins z σ h0 _ I h) fun ws z2 ⟨zs, h2, I2, rz, l2, sp⟩ => ⟨I2.kIn, ?_⟩) hpl
      rw [hks]
      exact H.runK (vs := []) (us := []) gd hr hb (passAt tk σ) I2 .nil rz rfl (l2.trans hkn.symm) sp⟩ fun σ H Q ⟨fx, stk, s, h, p⟩ =>
  ⟨fx, stk, s, h, (Post.bind (show Post ((gs s).bind fun bs s2 => if (([] : List AV).length = 0 ∧ bs.length = m) then mCall j F (fun s => .ok (Fe.perm pr ([] ++ bs)) s) s2 else .stuck) _ _ from p)).mono (fun bs s2 p qs H2 e2 h2 => by
    subst e2
    exact (callK_sp (ps := []) h2 p).2) fun _ _ x => x⟩
end
/-! ### a def -/
def runF (n m : Nat) (b : Sx → Res Fl) : Mir := fun as sto => if as.length = n ∧ argsOk as = true then (b ⟨as.map some ++ List.replicate m none, sto⟩).bind fun fl s' => match fl with
  | .ret (.pk _) => .stuck
  | .ret av => .ok av ⟨[], s'.sto⟩
  | .next => .ok (.dat .none) ⟨[], s'.sto⟩
  | _ => .stuck
  else .stuck
section
variable {G : Kx} {fx : Fx} {T : Addr → Tag} {μ : Nat → Addr} {s : Sx} {σ : L2.St} {H : Hp} {n : Nat}
theorem StkOk.rep : ∀ {stk : List (V × AV)}, StkOk G T μ σ H n stk → ∀ p ∈ stk, ∃ t, Rep G T μ σ H n t p.1 p.2
  | p :: r, h, q, hq => by
    rcases List.mem_cons.mp hq with z | hq
    · subst z
      exact ⟨_, h.1⟩
    · exact StkOk.rep h.2 q hq
theorem Rel.enter {ps : List (V × AV)} {m : Nat} {sto : List SO} (ha : argsOk (ps.map (·.2)) = true) (h : Rel G fx ps.reverse ⟨[], sto⟩ [] H) : Rel G fx [] ⟨(ps.map (·.2)).map some ++ List.replicate m none, sto⟩ ((ps.map (·.1)).map some ++ List.replicate m none) H := by
  obtain ⟨T, μ, h⟩ := h
  refine ⟨T, μ, ⟨True.intro, by simp, fun i av e => ?_, h.sto, h.fr, h.B, h.n0, h.mu⟩⟩
  have e : ((ps.map (·.2)).map some ++ List.replicate m none)[i]? = some (some av) := e
  by_cases hi : i < ps.length
  · rw [List.getElem?_append_left (by simpa using hi), List.getElem?_map, List.getElem?_map] at e
    have ep : ps[i]? = some ps[i] := List.getElem?_eq_getElem hi
    rw [ep] at e
    have ea : ps[i].2 = av := by simpa using e
    have hm : ps[i] ∈ ps := List.getElem_mem hi
    have hok : argOk av = true := by
      unfold argsOk at ha
      rw [← ea]
      exact List.all_eq_true.mp ha _ (List.mem_map.mpr ⟨_, hm, rfl⟩)
    obtain ⟨t, q⟩ := h.stk.rep ps[i] (List.mem_reverse.mpr hm)
    refine ⟨argOk_pk hok, ps[i].1, ?_, ?_⟩
    · rw [List.getElem?_append_left (by simpa using hi), List.getElem?_map, List.getElem?_map, ep]; rfl
    · rw [ea] at q
      cases av with
      | dat d => exact q
      | obj l => exact q
      | scr ns => exact q
      | own ds => cases hok
      | pk j => cases hok
  · rw [List.getElem?_append_right (by simpa using Nat.le_of_not_lt hi), List.getElem?_replicate] at e
    split at e
    · cases e
    · cases e
theorem Rel.leave {v : V} {av : AV} (hv : ∀ i, av ≠ .pk i) (h : Rel G fx [(v, av)] s σ H) : Rel G fx [(v, av)] ⟨[], s.sto⟩ [] H := by
  obtain ⟨T, μ, h⟩ := h
  exact ⟨T, μ, ⟨h.stk.sig (NoPk.cons hv NoPk.nil), rfl, fun i av e => by simp at e, h.sto, h.fr, h.B, h.n0, h.mu⟩⟩
theorem RelP.leave {P : Hp → Prop} (h : RelP G fx [] s σ H P) : RelP G fx [] ⟨[], s.sto⟩ [] H P := by
  obtain ⟨T, μ, h, p⟩ := h
  exact ⟨T, μ, ⟨True.intro, rfl, fun i av e => by simp at e, h.sto, h.fr, h.B, h.n0, h.mu⟩, p⟩
end
/-- a def's wish about exceptions -/
abbrev Wof (E : XK) : WX := fun c d _ H => E c d H
abbrev cxB (P : Program) (w : World) (K : PySem.W.Frag) (mg : Str → Option Value) (base : Heap) (N : List Str) (qual : Str) (st : Stmt) (f : Addr) (cdv : Value) (A : Around) (outer : List Env) (s : Shared) (H : Hp) (E : XK) : Cx :=
  cxOf (L2.CX P w) P w K mg base N qual (defScope st) f cdv A outer s H E
/-- what a body's derivation may lean on -/
structure Bd (X : Cx) (W : WX) (k : Nat) : Prop where
  calm : X.calm = true
  pass : PassesOwn (model X.prog X.w) X.A X.env X.xe
  tk : Takes X W
  room : Room k X.A
  gd : X.A.guards = some []
section
variable {P : Program} {w : World} {K : PySem.W.Frag} {mg : Str → Option Value} {base : Heap}
theorem fn_mir {x qual : Str} {st : Stmt} {f : Addr} {fd : FuncData} {N ps : List Str} {k : Nat} {b : Sx → Res Fl} (F : FunD K x qual (defArgs st) (defBody st) (defScope st) [] [] f fd) (S : FnScope N ps (defScope st))
    (hbody : ∀ (cdv : Value) (A : Around) (outer : List Env) (s : Shared) (H : Hp) (E : XK), Bd (cxB P w K mg base N qual st f cdv A outer s H E) (Wof E) k → FSs (cxB P w K mg base N qual st f cdv A outer s H E) (Wof E) (defBody st) b) :
    FnG P w K mg base (k + 1) f fd ps (SpF ⟨K, mg⟩ ps.length (runF ps.length (N.length - ps.length) b)) := by
  refine FnG.of F S (fun vs H Q E h => h.len) fun cdv A outer s H vs Q E gd hr h => ?_
  obtain ⟨fx, qs, sto, rfl, hn, ha, hrel, p⟩ := h
  refine ⟨_, hbody cdv A outer s H E ⟨rfl, passes_of rfl, takes_of rfl rfl rfl rfl, hr, gd⟩, fx, [], ⟨(qs.map (·.2)).map some ++ List.replicate (N.length - ps.length) none, sto⟩, NoPk.nil, ?_, ?_⟩
  · have e : L2.start N (qs.map (·.1)) = (qs.map (·.1)).map some ++ List.replicate (N.length - ps.length) none := by
      unfold L2.start
      rw [List.length_map, hn]
    rw [e]
    exact hrel.enter ha
  · have p : Post (if (qs.map (·.2)).length = ps.length ∧ argsOk (qs.map (·.2)) = true then (b ⟨(qs.map (·.2)).map some ++ List.replicate (N.length - ps.length) none, sto⟩).bind fun fl s' => (match fl with
      | .ret (.pk _) => .stuck
      | .ret av => .ok av ⟨[], s'.sto⟩
      | .next => .ok (.dat .none) ⟨[], s'.sto⟩
      | _ => .stuck) else .stuck) _ _ := p
    rw [if_pos ⟨by rw [List.length_map]; exact hn, ha⟩] at p
    refine (Post.bind p).mono (fun fl s' p => ?_) fun e s' p c d σ' H' h' => p c d H' h'.leave
    cases fl with
    | next => exact fun σ' H' h' => p .non H' (fun _ z => nomatch z) (Rel.leave (s := s') (σ := σ') (fun _ z => nomatch z) (h'.scal fun _ => .non))
    | brk => exact p.elim
    | cont => exact p.elim
    | ret av => 
      intro v σ' H' h'
      have go : (∀ i, av ≠ .pk i) → (∀ v H', (∀ i, av ≠ .pk i) → Rel ⟨K, mg⟩ fx [(v, av)] ⟨[], s'.sto⟩ [] H' → Q v H') → Q v H' := fun hv p => p v H' hv (Rel.leave (s := s') (σ := σ') hv h')
      cases av with
      | pk i => exact p.elim
      | dat d => exact go (fun _ z => nomatch z) p
      | own d => exact go (fun _ z => nomatch z) p
      | obj d => exact go (fun _ z => nomatch z) p
      | scr d => exact go (fun _ z => nomatch z) p
end
end Fe

/-! Fe13: pairs stored; lists rewritten; objects of the store. -/
namespace Fe
open PySem PySem.Spec PyProof.Rows L2

/-! ### a, b = x, y, plain names -/
section
variable {G : Kx} {fx : Fx} {T : Addr → Tag} {μ : Nat → Addr} {stk : List (V × AV)} {s s' : Sx} {σ : L2.St} {H : Hp} {n : Nat} {v w x y : V} {av bv : AV}
theorem Rel.set1 {i : Nat} (hn : NoPk stk) (hp : ∀ j, av ≠ .pk j) (h : Rel G fx ((v, av) :: stk) s σ H) : Rel G fx stk { s with env := s.env.set i (some av) } (σ.set i (some v)) H := by
  by_cases hi : i < σ.length
  · exact h.setSlot hi hn hp
  · have e1 : σ.set i (some v) = σ := List.set_eq_of_length_le (by omega)
    rw [e1]
    obtain ⟨T, μ, h⟩ := h
    have e2 : s.env.set i (some av) = s.env := List.set_eq_of_length_le (by rw [h.len]; omega)
    rw [e2]
    exact ⟨T, μ, h.pop⟩
def noPkB : AV → Bool
  | .pk _ => false
  | _ => true
theorem noPkB_of {av : AV} (h : noPkB av = true) : ∀ j, av ≠ .pk j := fun j z => by subst z; cases h
end
def mPar2 (i j : Nat) (fs : Sx → Res (List AV)) : Sx → Res Fl := fun s => (fs s).bind fun as s1 => match as with
  | [a, b] => if (noPkB a && noPkB b) = true then .ok .next { s1 with env := (s1.env.set j (some b)).set i (some a) } else .stuck
  | _ => .stuck
def mPar3 (i j l : Nat) (fs : Sx → Res (List AV)) : Sx → Res Fl := fun s => (fs s).bind fun as s1 => match as with
  | [a, b, c] => if (noPkB a && (noPkB b && noPkB c)) = true then .ok .next { s1 with env := ((s1.env.set l (some c)).set j (some b)).set i (some a) } else .stuck
  | _ => .stuck
section
variable {X : Cx} {W : WX} {pos : Pos} {fs : Sx → Res (List AV)}
theorem fs_par2 (i j : Nat) {x y : Str} {a b : Expr} {px py pt : Pos} {kt k2 pt2} (hc : X.calm = true) (hN : X.N.Nodup) (ha : FA X W [a, b] fs) (hi : X.N[i]? = some x := by rfl) (hj : X.N[j]? = some y := by rfl) (hij : i ≠ j := by decide)
    (hx : X.env.scope.names.lookup x = some .local := by rfl) (hy : X.env.scope.names.lookup y = some .local := by rfl)
    (hw : swappedStores [.Tuple [.Name x px, .Name y py] kt pt] (.Tuple [a, b] k2 pt2) X.env = pure (some [x, y]) := by rfl)
    (hs : swapsWithSole [.Tuple [.Name x px, .Name y py] kt pt] (.Tuple [a, b] k2 pt2) pos.line X.env = pure false := by rfl) :
    FS X W (.Assign [.Tuple [.Name x px, .Name y py] kt pt] (.Tuple [a, b] k2 pt2) pos) (mPar2 i j fs) := ps_imp (ps_par hc hN hi hj hij hx hy ha hw hs) fun D σ H ⟨fx, stk, s, hn, h, p⟩ =>
  ⟨fx, stk, s, h, (Post.bind p).mono (fun as s1 p ps H1 e h1 => by
    match ps, e with
    | [(v, av), (w, bv)], e =>
      subst e
      have p : Post (if (noPkB av && noPkB bv) = true then Res.ok Fl.next { s1 with env := (s1.env.set j (some bv)).set i (some av) } else .stuck) _ _ := p
      by_cases hb : (noPkB av && noPkB bv) = true
      · rw [if_pos hb] at p
        rw [Bool.and_eq_true] at hb
        refine ⟨v, w, rfl, ?_⟩
        rw [List.set_comm _ _ hij]
        have h1 : Rel (gx X) fx ((w, bv) :: (v, av) :: stk) s1 σ H1 := h1
        exact p _ _ ((h1.set1 (i := j) (NoPk.cons (noPkB_of hb.1) hn) (noPkB_of hb.2)).set1 (i := i) hn (noPkB_of hb.1))
      · rw [if_neg hb] at p; exact p.elim
    | [], e => subst e; exact p.elim
    | [_], e => subst e; exact p.elim
    | _ :: _ :: _ :: _, e => subst e; exact p.elim) fun _ _ x => x.to⟩
theorem fs_par3 (i j l : Nat) {x y z : Str} {a b c : Expr} {px py pz pt : Pos} {kt k2 pt2} (hc : X.calm = true) (hN : X.N.Nodup) (ha : FA X W [a, b, c] fs) (hi : X.N[i]? = some x := by rfl) (hj : X.N[j]? = some y := by rfl) (hl : X.N[l]? = some z := by rfl) (hij : i ≠ j := by decide) (hil : i ≠ l := by decide) (hjl : j ≠ l := by decide)
    (hx : X.env.scope.names.lookup x = some .local := by rfl) (hy : X.env.scope.names.lookup y = some .local := by rfl) (hz : X.env.scope.names.lookup z = some .local := by rfl)
    (hw : swappedStores [.Tuple [.Name x px, .Name y py, .Name z pz] kt pt] (.Tuple [a, b, c] k2 pt2) X.env = pure (some [x, y, z]) := by rfl)
    (hs : swapsWithSole [.Tuple [.Name x px, .Name y py, .Name z pz] kt pt] (.Tuple [a, b, c] k2 pt2) pos.line X.env = pure false := by rfl) :
    FS X W (.Assign [.Tuple [.Name x px, .Name y py, .Name z pz] kt pt] (.Tuple [a, b, c] k2 pt2) pos) (mPar3 i j l fs) := ps_imp (ps_par3 hc hN hi hj hl hij hil hjl hx hy hz ha hw hs) fun D σ H ⟨fx, stk, s, hn, h, p⟩ =>
  ⟨fx, stk, s, h, (Post.bind p).mono (fun as s1 p ps H1 e h1 => by
    match ps, e with
    | [(u, av), (v, bv), (w, cv)], e =>
      subst e
      have p : Post (if (noPkB av && (noPkB bv && noPkB cv)) = true then Res.ok Fl.next { s1 with env := ((s1.env.set l (some cv)).set j (some bv)).set i (some av) } else .stuck) _ _ := p
      by_cases hb : (noPkB av && (noPkB bv && noPkB cv)) = true
      · rw [if_pos hb] at p
        rw [Bool.and_eq_true, Bool.and_eq_true] at hb
        refine ⟨u, v, w, rfl, ?_⟩
        have e1 : ((σ.set i (some u)).set j (some v)).set l (some w) = ((σ.set l (some w)).set j (some v)).set i (some u) := by
          rw [List.set_comm _ _ hij, List.set_comm _ _ hil, List.set_comm _ _ hjl]
        rw [e1]
        have h1 : Rel (gx X) fx ((w, cv) :: (v, bv) :: (u, av) :: stk) s1 σ H1 := h1
        have n1 : NoPk ((u, av) :: stk) := NoPk.cons (noPkB_of hb.1) hn
        exact p _ _ (((h1.set1 (i := l) (NoPk.cons (noPkB_of hb.2.1) n1) (noPkB_of hb.2.2)).set1 (i := j) n1 (noPkB_of hb.2.1)).set1 (i := i) hn (noPkB_of hb.1))
      · rw [if_neg hb] at p; exact p.elim
    | [], e => subst e; exact p.elim
    | [_], e => subst e; exact p.elim
    | [_, _], e => subst e; exact p.elim
    | _ :: _ :: _ :: _ :: _, e => subst e; exact p.elim) fun _ _ x => x.to⟩
end

/-! ### lists that may be rewritten -/
def rdL (s : Sx) : AV → Option (List AV)
  | .pk i => match s.env[i]? with
    | some (some (.own ds)) => some (ds.map .dat)
    | _ => none
  | .obj l => match s.sto[l]? with
    | some (.lst xs) => some xs
    | _ => none
  | _ => none
def wrL (xs : List AV) (s : Sx) : AV → Option Sx
  | .pk i => (datA xs).map fun ds => { s with env := s.env.set i (some (.own ds)) }
  | .obj l => some { s with sto := s.sto.set l (.lst xs) }
  | _ => none
section
variable {G : Kx} {fx : Fx} {T : Addr → Tag} {μ : Nat → Addr} {stk : List (V × AV)} {s s' : Sx} {σ : L2.St} {H : Hp} {n : Nat} {v w x y : V} {av bv : AV} {t : Tag}
theorem paired_dat : ∀ {vs : List V} {ds : List PyData}, DqAll G.K (dh T H) vs ds → Paired (RepF G T μ H n) vs (ds.map .dat)
  | _, _, .nil => .nil
  | _, _, .cons h k => .cons h (paired_dat k)
/-- one object of the store rewritten -/
theorem R.updObj {l : Nat} {so so' : SO} {o : HO} (h : R G fx T μ stk s σ H) (hs : s.sto[l]? = some so) (q : RepO G T μ H s.sto.length (some o) so') : R G fx T μ stk { s with sto := s.sto.set l so' } σ (upd H (μ l) o) := by
  obtain ⟨hT, _⟩ := h.sto l so hs
  have hl : l < s.sto.length := (List.getElem?_eq_some_iff.mp hs).1
  have nd : T (μ l) ≠ .data := by rw [hT]; exact fun z => nomatch z
  have c : Chg T T H (upd H (μ l) o) (fun b => b = μ l) := chg_upd nd
  have lv : ∀ t, t ≠ .obj l → Live T H (fun b => b = μ l) t := fun t ht => Live.tag (by rw [hT]; exact fun z => ht z.symm)
  have el : (s.sto.set l so').length = s.sto.length := List.length_set ..
  refine ⟨?_, h.len, fun j av e => ?_, fun k so2 e => ?_, h.fr_chg c (lv _ (fun z => nomatch z)), h.B_chg c, by show fx.n0 ≤ (s.sto.set l so').length; rw [el]; exact h.n0, h.mu⟩
  · show StkOk G T μ σ (upd H (μ l) o) (s.sto.set l so').length stk
    rw [el]
    exact h.stk.chg c (Nat.le_refl _) (fun _ _ => rfl) (fun _ _ q => q) fun k _ => lv _ (fun z => nomatch z)
  · show (∀ j, av ≠ .pk j) ∧ ∃ v, σ[j]? = some (some v) ∧ Rep G T μ σ (upd H (μ l) o) (s.sto.set l so').length (.slot j) v av
    rw [el]
    exact h.env_chg c (Nat.le_refl _) (fun _ _ => rfl) (lv _ (fun z => nomatch z)) e
  · show T (μ k) = .obj k ∧ RepO G T μ (upd H (μ l) o) (s.sto.set l so').length (upd H (μ l) o (μ k)) so2
    rw [el]
    have e : (s.sto.set l so')[k]? = some so2 := e
    by_cases hk : l = k
    · subst hk
      rw [List.getElem?_set_self hl] at e
      cases e
      rw [upd_same]
      exact ⟨hT, q.chg c (Nat.le_refl _) fun _ _ => rfl⟩
    · rw [List.getElem?_set_ne hk] at e
      exact h.sto_chg c (Nat.le_refl _) (fun _ _ => rfl) (lv _ (fun z => hk (by injection z with z; exact z.symm))) e
theorem paired_len {α β : Type} {F : α → β → Prop} {l : List α} {k : List β} (h : Paired F l k) : l.length = k.length := by
  induction h with
  | nil => rfl
  | cons _ _ ih => simp [ih]
theorem R.list {xs : List AV} (h : R G fx T μ stk s σ H) (hr : Rep G T μ σ H s.sto.length t v av) (e : rdL s av = some xs) : ∃ a vs, v = .ref a ∧ H a = some (.lst vs) ∧ Paired (RepF G T μ H s.sto.length) vs xs ∧
    ∀ stk' vs' xs' s', R G fx T μ stk' s σ H → wrL xs' s av = some s' → Paired (RepF G T μ H s.sto.length) vs' xs' → Rel G fx stk' s' σ (upd H a (.lst vs')) := by
  cases av with
  | pk i =>
    have hv : σ[i]? = some (some v) := hr
    have e : (match s.env[i]? with | some (some (.own ds)) => some (ds.map AV.dat) | _ => none) = some xs := e
    match he : s.env[i]? with
    | some (some (.own ds)) =>
      rw [he] at e
      cases e
      obtain ⟨_, v', e', a, vs, rfl, _, h2, h3⟩ := h.env i _ he
      rw [hv] at e'; cases e'
      refine ⟨a, vs, rfl, h2, paired_dat h3, fun stk' vs' xs' s' h ew q => ?_⟩
      obtain ⟨ds', e1, e2⟩ := Option.map_eq_some_iff.mp ew
      subst e2
      exact Rel.updSlot h he hv (dqAll_paired (A := H) q e1)
    | some (some (.dat _)) => rw [he] at e; cases e
    | some (some (.obj _)) => rw [he] at e; cases e
    | some (some (.scr _)) => rw [he] at e; cases e
    | some (some (.pk _)) => rw [he] at e; cases e
    | some none => rw [he] at e; cases e
    | none => rw [he] at e; cases e
  | obj l =>
    have e : (match s.sto[l]? with | some (.lst xs) => some xs | _ => none) = some xs := e
    match hs : s.sto[l]? with
    | some (.lst ys) =>
      rw [hs] at e
      cases e
      obtain ⟨_, h2⟩ := h.sto l _ hs
      obtain ⟨o, ho⟩ := h2.some
      rw [ho] at h2
      cases o with
      | lst vs =>
        obtain ⟨_, rfl⟩ := hr
        refine ⟨_, vs, rfl, ho, h2, fun stk' vs' xs' s' h ew q => ?_⟩
        have ew : some { s with sto := s.sto.set l (.lst xs') } = some s' := ew
        cases ew
        exact ⟨T, μ, h.updObj hs q⟩
      | _ => exact h2.elim
    | some (.dic _) => rw [hs] at e; cases e
    | some (.ins _ _) => rw [hs] at e; cases e
    | none => rw [hs] at e; cases e
  | _ => cases e
theorem R.list1 (h : R G fx T μ ((v, av) :: stk) s σ H) {xs : List AV} (e : rdL s av = some xs) : tyV G.K "list" v H := by
  obtain ⟨a, vs, rfl, h2, _⟩ := h.list h.stk.1 e
  exact .inl ⟨rfl, vs, SqL.of h2⟩
/-- the values on top of the stack, objects and data -/
def frA : AV → Bool
  | .dat _ => true
  | .obj _ => true
  | _ => false
theorem Rep.f (hb : frA av = true) (h : Rep G T μ σ H n t v av) : RepF G T μ H n v av := by
  cases av with
  | dat _ => exact h
  | obj _ => exact h
  | _ => cases hb
theorem RepF.r (h : RepF G T μ H n v av) : Rep G T μ σ H n t v av := by
  cases av with
  | dat _ => exact h
  | obj _ => exact h
  | _ => exact h.elim
theorem Paired.app {α β : Type} {F : α → β → Prop} : ∀ {l : List α} {k : List β} {l' : List α} {k' : List β}, Paired F l k → Paired F l' k' → Paired F (l ++ l') (k ++ k')
  | _, _, _, _, .nil, h => h
  | _, _, _, _, .cons h k, q => .cons h (Paired.app k q)
theorem Paired.tk {α β : Type} {F : α → β → Prop} : ∀ {l : List α} {k : List β} (n : Nat), Paired F l k → Paired F (l.take n) (k.take n)
  | _, _, 0, _ => .nil
  | _, _, _ + 1, .nil => .nil
  | _, _, n + 1, .cons h k => .cons h (Paired.tk n k)
theorem Paired.dp {α β : Type} {F : α → β → Prop} : ∀ {l : List α} {k : List β} (n : Nat), Paired F l k → Paired F (l.drop n) (k.drop n)
  | _, _, 0, h => h
  | _, _, _ + 1, .nil => .nil
  | _, _, n + 1, .cons _ k => Paired.dp n k
theorem Paired.er {α β : Type} {F : α → β → Prop} : ∀ {l : List α} {k : List β} (n : Nat), Paired F l k → Paired F (l.eraseIdx n) (k.eraseIdx n)
  | _, _, _, .nil => .nil
  | _, _, 0, .cons _ k => k
  | _, _, n + 1, .cons h k => .cons h (Paired.er n k)
theorem Paired.dl {α β : Type} {F : α → β → Prop} : ∀ {l : List α} {k : List β}, Paired F l k → Paired F l.dropLast k.dropLast
  | _, _, .nil => .nil
  | _, _, .cons h .nil => .nil
  | _, _, .cons h (.cons h2 k) => .cons h (Paired.dl (.cons h2 k))
theorem Paired.st {α β : Type} {F : α → β → Prop} {a : α} {b : β} (q : F a b) : ∀ {l : List α} {k : List β} (n : Nat), Paired F l k → Paired F (l.set n a) (k.set n b)
  | _, _, _, .nil => .nil
  | _, _, 0, .cons _ k => .cons q k
  | _, _, n + 1, .cons h k => .cons h (Paired.st q n k)
theorem Paired.at {α β : Type} {F : α → β → Prop} : ∀ {l : List α} {k : List β} {i : Nat} {b : β}, Paired F l k → k[i]? = some b → ∃ a, l[i]? = some a ∧ F a b
  | _, _, _, _, .nil, h => by simp at h
  | _, _, 0, d, .cons h _, e => by simp at e; subst e; exact ⟨_, rfl, h⟩
  | _, _, i + 1, d, .cons _ k, e => by
    obtain ⟨v, e1, e2⟩ := Paired.at (i := i) (b := d) k (by simpa using e)
    exact ⟨v, by simpa using e1, e2⟩
theorem Paired.rv {α β : Type} {F : α → β → Prop} : ∀ {l : List α} {k : List β}, Paired F l k → Paired F l.reverse k.reverse
  | _, _, .nil => .nil
  | _, _, .cons h k => by
    rw [List.reverse_cons, List.reverse_cons]
    exact Paired.app (Paired.rv k) (.cons h .nil)
end
/-- a method of a list, by values -/
def V1N (G : Kx) (r : V → List V → Hp → VK → Prop) (g : AV → List AV → Sx → Option (AV × Sx)) : Prop := ∀ fx stk s σ H x a (ps : List (V × AV)), Rel G fx (ps.reverse ++ (x, a) :: stk) s σ H → ∀ c s', g a (ps.map (·.2)) s = some (c, s') → ∀ Q : VK, (∀ v H', Rel G fx ((v, c) :: stk) s' σ H' → Q v H') → r x (ps.map (·.1)) H Q
def mM (g : AV → List AV → Sx → Option (AV × Sx)) (f : Sx → Res AV) (fs : Sx → Res (List AV)) : Sx → Res AV := fun s => (f s).bind fun a s1 => if (rdL s1 a).isSome = true then (fs s1).bind fun as s2 => ofO (g a as s2) else .stuck
section
variable {X : Cx} {W : WX} {pos : Pos} {fs : Sx → Res (List AV)} {f : Sx → Res AV} {o e : Expr} {es : List Expr} {name : Str} {apos cpos : Pos} {id : String} {r : V → List V → Hp → VK → Prop} {g : AV → List AV → Sx → Option (AV × Sx)}
theorem fe_bmL (slot : Slot "list" name id) (hty : typeOf (.builtin id) = pure (.type "method_descriptor")) (hm : MtR X id r) (hv : V1N (gx X) r g) (ho : FE X W o f) (ha : FA X W (e :: es) fs)
    (hbase : attributeBase o name X.env (eval o X.env) = eval o X.env := by rfl)
    (hfew : ((backTo cpos (starEach (e :: es) X.env)).all (fun x => !x.1) && (backToKw cpos (keywordEach [] X.env)).all (fun x => x.1.isSome)
      && decide ((e :: es).length + ([] : List Keyword).length + (if ([] : List Keyword).isEmpty then 0 else 1) < 30)) = true := by rfl)
    (hline : (apos.endLine == cpos.line) = true := by rfl) (hs : starEach (e :: es) X.env = (false, eval e X.env) :: starEach es X.env := by rfl) (hplain : (backTo cpos (starEach es X.env)).any (·.1) = false := by rfl) :
    FE X W (.Call (.Attribute o name apos) (e :: es) [] cpos) (mM g f fs) := pe_imp (pe_bm PySem.F.plainAttrs_list slot hty hm ho ha hbase hfew hline hs hplain) fun σ H Q ⟨fx, stk, s, h, p⟩ =>
  ⟨fx, stk, s, h, (Post.bind p).mono (fun a s1 p x H1 h1 => by
    by_cases hi : (rdL s1 a).isSome = true
    · rw [if_pos hi] at p
      obtain ⟨xs, ex⟩ := Option.isSome_iff_exists.mp hi
      refine ⟨let ⟨T, μ, h2⟩ := h1; h2.list1 ex, fx, _, s1, h1, (Post.bind p).mono (fun as s2 p ps H2 e2 h2 => ?_) fun _ _ x => x.up⟩
      subst e2
      obtain ⟨c, s', e, q⟩ := Post.ofO p
      exact hv fx stk s2 σ H2 x a ps h2 c s' e Q q
    · rw [if_neg hi] at p; exact p.elim) fun _ _ x => x⟩
theorem fe_bmL0 (slot : Slot "list" name id) (hty : typeOf (.builtin id) = pure (.type "method_descriptor")) (hm : MtR X id r) (hv : V1N (gx X) r g) (ho : FE X W o f)
    (hbase : attributeBase o name X.env (eval o X.env) = eval o X.env := by rfl) (hline : (apos.endLine == cpos.line) = true := by rfl) :
    FE X W (.Call (.Attribute o name apos) [] [] cpos) (mM g f mNil) := pe_imp (pe_bm0 PySem.F.plainAttrs_list slot hty hm ho hbase hline) fun σ H Q ⟨fx, stk, s, h, p⟩ =>
  ⟨fx, stk, s, h, (Post.bind p).mono (fun a s1 p x H1 h1 => by
    by_cases hi : (rdL s1 a).isSome = true
    · rw [if_pos hi] at p
      obtain ⟨xs, ex⟩ := Option.isSome_iff_exists.mp hi
      refine ⟨let ⟨T, μ, h2⟩ := h1; h2.list1 ex, ?_⟩
      have p : Post (ofO (g a [] s1)) (fun av s' => ∀ v H', Rel (gx X) fx ((v, av) :: stk) s' σ H' → Q v H') (Xw (gx X) W fx stk σ) := p
      obtain ⟨c, s', e, q⟩ := Post.ofO p
      exact hv fx stk s1 σ H1 x a [] h1 c s' e Q q
    · rw [if_neg hi] at p; exact p.elim) fun _ _ x => x⟩
end
def isD : AV → Option PyData
  | .dat d => some d
  | _ => none
theorem isD_some {av : AV} {d : PyData} (e : isD av = some d) : av = .dat d := by
  cases av <;> cases e; rfl
def gAppend : AV → List AV → Sx → Option (AV × Sx) := fun a as s => match as, rdL s a with
  | [b], some xs => if frA b = true ∧ xs.length < LIM then (wrL (xs ++ [b]) s a).map fun s' => (.dat .none, s') else none
  | _, _ => none
def gExtend : AV → List AV → Sx → Option (AV × Sx) := fun a as s => match as, rdL s a with
  | [b], some xs => match lookA s b with
    | some (.list ds) => if xs.length + ds.length ≤ LIM then (wrL (xs ++ ds.map .dat) s a).map fun s' => (.dat .none, s') else none
    | _ => none
  | _, _ => none
def gPop : AV → List AV → Sx → Option (AV × Sx) := fun a as s => match as, rdL s a with
  | [], some xs => match xs[xs.length - 1]? with
    | some y => (wrL xs.dropLast s a).map fun s' => (y, s')
    | none => none
  | _, _ => none
def gPopAt : AV → List AV → Sx → Option (AV × Sx) := fun a as s => match as, rdL s a with
  | [.dat (.int i)], some xs => if -(2 ^ 63) ≤ i ∧ i < 2 ^ 63 then (match seqIndex? i xs.length with
    | some k => match xs[k]? with
      | some y => (wrL (xs.eraseIdx k) s a).map fun s' => (y, s')
      | none => none
    | none => none) else none
  | _, _ => none
def gInsert : AV → List AV → Sx → Option (AV × Sx) := fun a as s => match as, rdL s a with
  | [.dat (.int i), b], some xs => if frA b = true ∧ xs.length < LIM ∧ 0 ≤ i ∧ i < 2 ^ 63 then (wrL (xs.take i.toNat ++ [b] ++ xs.drop i.toNat) s a).map fun s' => (.dat .none, s') else none
  | _, _ => none
def gReverse : AV → List AV → Sx → Option (AV × Sx) := fun a as s => match as, rdL s a with
  | [], some xs => (wrL xs.reverse s a).map fun s' => (.dat .none, s')
  | _, _ => none
section
variable {G : Kx}
theorem Rel.pushN {fx : Fx} {stk : List (V × AV)} {s : Sx} {σ : L2.St} {H : Hp} (h : Rel G fx stk s σ H) : Rel G fx ((V.non, .dat .none) :: stk) s σ H := h.scal fun _ => .non
theorem v_append : V1N G rAppend gAppend := fun fx stk s σ H x a ps h c s' e Q q => by
  unfold gAppend at e
  split at e
  · rename_i b xs eas ex
    match ps, eas with
    | [(w, bv)], eas =>
      cases eas
      split at e
      · rename_i hc
        obtain ⟨s1, e1, e2⟩ := Option.map_eq_some_iff.mp e
        cases e2
        obtain ⟨T, μ, h⟩ := h
        have h0 : R G fx T μ ((w, bv) :: (x, a) :: stk) s σ H := h
        obtain ⟨l, vs, rfl, hl, hp, hw⟩ := h0.pop.pop.list h0.pop.stk.1 ex
        refine ⟨l, vs, w, rfl, rfl, hl, by rw [paired_len hp, lim_eq]; exact hc.2, ?_⟩
        exact q _ _ (hw _ _ _ _ h0.pop.pop e1 (Paired.app hp (.cons (Rep.f hc.1 h0.stk.1) .nil))).pushN
      · cases e
  · cases e
theorem v_extend : V1N G rExtend gExtend := fun fx stk s σ H x a ps h c s' e Q q => by
  unfold gExtend at e
  split at e
  · rename_i b xs eas ex
    match ps, eas with
    | [(w, bv)], eas =>
      cases eas
      split at e
      · rename_i ds eb
        split at e
        · rename_i hc
          obtain ⟨s1, e1, e2⟩ := Option.map_eq_some_iff.mp e
          cases e2
          obtain ⟨T, μ, h⟩ := h
          have h0 : R G fx T μ ((w, bv) :: (x, a) :: stk) s σ H := h
          obtain ⟨l2, zs, rfl, hl2, hz⟩ := h0.lookL h0.stk.1 eb
          obtain ⟨l, vs, rfl, hl, hp, hw⟩ := h0.pop.pop.list h0.pop.stk.1 ex
          refine ⟨l, l2, vs, zs, rfl, rfl, hl, hl2, by rw [paired_len hp, dqAll_len hz, lim_eq]; exact hc, ?_⟩
          exact q _ _ (hw _ _ _ _ h0.pop.pop e1 (Paired.app hp (paired_dat hz))).pushN
        · cases e
      · cases e
  · cases e
theorem v_pop : V1N G rPop gPop := fun fx stk s σ H x a ps h c s' e Q q => by
  unfold gPop at e
  split at e
  · rename_i xs eas ex
    match ps, eas with
    | [], eas =>
      split at e
      · rename_i y ey
        obtain ⟨s1, e1, e2⟩ := Option.map_eq_some_iff.mp e
        cases e2
        obtain ⟨T, μ, h⟩ := h
        have h0 : R G fx T μ ((x, a) :: stk) s σ H := h
        obtain ⟨l, vs, rfl, hl, hp, hw⟩ := h0.list h0.stk.1 ex
        rw [← paired_len hp] at ey
        obtain ⟨w, ew, fw⟩ := Paired.at hp ey
        exact ⟨l, vs, w, rfl, rfl, hl, ew, q _ _ (hw _ _ _ _ (h0.pop.push (RepF.r fw)) e1 (Paired.dl hp))⟩
      · cases e
  · cases e
theorem v_popAt : V1N G rPopAt gPopAt := fun fx stk s σ H x a ps h c s' e Q q => by
  unfold gPopAt at e
  split at e
  · rename_i i xs eas ex
    match ps, eas with
    | [(w, bv)], eas =>
      cases eas
      split at e
      · rename_i hc
        split at e
        · rename_i k ek
          split at e
          · rename_i y ey
            obtain ⟨s1, e1, e2⟩ := Option.map_eq_some_iff.mp e
            cases e2
            have hi : w = .int i := Rel.intV (h : Rel G fx ((w, .dat (.int i)) :: (x, a) :: stk) s σ H)
            subst hi
            obtain ⟨T, μ, h⟩ := h
            have h0 : R G fx T μ ((V.int i, .dat (.int i)) :: (x, a) :: stk) s σ H := h
            obtain ⟨l, vs, rfl, hl, hp, hw⟩ := h0.pop.list h0.pop.stk.1 ex
            obtain ⟨w, ew, fw⟩ := Paired.at hp ey
            exact ⟨l, vs, i, k, w, rfl, rfl, hl, hc.1, hc.2, by rw [paired_len hp]; exact ek, ew, q _ _ (hw _ _ _ _ (h0.pop.pop.push (RepF.r fw)) e1 (Paired.er k hp))⟩
          · cases e
        · cases e
      · cases e
  · cases e
theorem v_insert : V1N G (fun x vs H Q => ∃ (l : Addr) (xs : List V) (i : Int) (y : V), x = .ref l ∧ vs = [.int i, y] ∧ H l = some (.lst xs) ∧ xs.length < sizeLine ∧ 0 ≤ i ∧ i < 2 ^ 63 ∧
    Q .non (upd H l (.lst (xs.take i.toNat ++ [y] ++ xs.drop i.toNat)))) gInsert := fun fx stk s σ H x a ps h c s' e Q q => by
  unfold gInsert at e
  split at e
  · rename_i i b xs eas ex
    match ps, eas with
    | [(w, av), (z, bv)], eas =>
      cases eas
      split at e
      · rename_i hc
        obtain ⟨s1, e1, e2⟩ := Option.map_eq_some_iff.mp e
        cases e2
        have hi : w = .int i := Rel.intV (Rel.pop (h : Rel G fx ((z, bv) :: (w, .dat (.int i)) :: (x, a) :: stk) s σ H))
        subst hi
        obtain ⟨T, μ, h⟩ := h
        have h0 : R G fx T μ ((z, bv) :: (V.int i, .dat (.int i)) :: (x, a) :: stk) s σ H := h
        obtain ⟨l, vs, rfl, hl, hp, hw⟩ := h0.pop.pop.list h0.pop.pop.stk.1 ex
        exact ⟨l, vs, i, z, rfl, rfl, hl, by rw [paired_len hp, lim_eq]; exact hc.2.1, hc.2.2.1, hc.2.2.2, q _ _ (hw _ _ _ _ h0.pop.pop.pop e1 (Paired.app (Paired.app (Paired.tk _ hp) (.cons (Rep.f hc.1 h0.stk.1) .nil)) (Paired.dp _ hp))).pushN⟩
      · cases e
  · cases e
theorem v_reverse : V1N G rReverse gReverse := fun fx stk s σ H x a ps h c s' e Q q => by
  unfold gReverse at e
  split at e
  · rename_i xs eas ex
    match ps, eas with
    | [], eas =>
      obtain ⟨s1, e1, e2⟩ := Option.map_eq_some_iff.mp e
      cases e2
      obtain ⟨T, μ, h⟩ := h
      have h0 : R G fx T μ ((x, a) :: stk) s σ H := h
      obtain ⟨l, vs, rfl, hl, hp, hw⟩ := h0.list h0.stk.1 ex
      exact ⟨l, vs, rfl, rfl, hl, q _ _ (hw _ _ _ _ h0.pop e1 (Paired.rv hp)).pushN⟩
  · cases e
end

/-! ### o[i] = v, o a list -/
def gSubL (fo fi : Sx → Res AV) : AV → Sx → Res Unit := fun v s => if frA v = true then (fo s).bind fun a s1 => (fi s1).bind fun i s2 => match i, rdL s2 a with
  | .dat (.int k), some xs => match ixN xs.length k with
    | some j => (match wrL (xs.set j v) s2 a with
      | some s3 => .ok () s3
      | none => .stuck)
    | none => .stuck
  | _, _ => .stuck
  else .stuck
section
variable {X : Cx} {W : WX} {pos : Pos} {o i : Expr} {fo fi : Sx → Res AV}
theorem frA_pk {av : AV} (h : frA av = true) : ∀ i, av ≠ .pk i := fun i z => by subst z; cases h
theorem fg_sub {vs : List Nat} (ho : FE X W o fo) (hi : FE X W i fi)
    (ha : ∀ v, assign (.Subscript o i pos) X.env v = (do
      let ov ← holding [v] (eval o X.env)
      let iv ← holding [v, ov] (eval i X.env)
      standAt pos
      holding [v, ov, iv] (setItem ov iv v)
      release [v, ov, iv] []) := by intro _; rfl) : FG X W vs (.Subscript o i pos) (gSubL fo fi) := pg_imp (pg_sub ho hi set_list ha) fun v σ H Q ⟨fx, stk, s, av, hn, h, p⟩ => by
  have p : Post (if frA av = true then (fo s).bind fun a s1 => (fi s1).bind fun i s2 => (match i, rdL s2 a with
    | .dat (.int k), some xs => (match ixN xs.length k with
      | some j => (match wrL (xs.set j av) s2 a with
        | some s3 => Res.ok () s3
        | none => .stuck)
      | none => .stuck)
    | _, _ => .stuck) else .stuck) _ _ := p
  by_cases hf : frA av = true
  · rw [if_pos hf] at p
    refine ⟨fx, _, s, h, (Post.bind p).mono (fun a s1 p x H1 h1 => ⟨fx, _, s1, h1, (Post.bind p).mono (fun b s2 p y H2 h2 => ?_) fun _ _ x => x.to.up.up⟩) fun _ _ x => x.to.up⟩
    split at p
    · rename_i k xs ex
      split at p
      · rename_i j ej
        split at p
        · rename_i s3 ew
          have hy : y = .int k := h2.intV
          subst hy
          obtain ⟨T, μ, h2⟩ := h2
          obtain ⟨l, ws, rfl, hl, hp, hw⟩ := h2.pop.list h2.pop.stk.1 ex
          refine ⟨l, ws, k, j, rfl, rfl, hl, by rw [paired_len hp]; exact ej, ?_⟩
          exact p σ _ rfl (hw _ _ _ _ h2.pop.pop.pop ew (Paired.st (Rep.f hf h2.pop.pop.stk.1) j hp))
        · exact p.elim
      · exact p.elim
    · exact p.elim
  · rw [if_neg hf] at p; exact p.elim
end
end Fe

/-! Fe14: objects of the store made; dicts with text keys. -/
namespace Fe
open PySem PySem.Spec PyProof.Rows L2
section
variable {G : Kx} {fx : Fx} {T U : Addr → Tag} {μ : Nat → Addr} {stk : List (V × AV)} {s s' : Sx} {σ : L2.St} {H : Hp} {n : Nat} {v w x y : V} {av bv : AV} {t : Tag} {a : Addr} {so : SO}
/-- an object that nothing knows goes into the store -/
theorem R.newObj (h : R G fx T μ stk s σ H) (h1 : ∀ k, k < stk.length → T a ≠ .stk k) (h2 : ∀ i, T a ≠ .slot i) (h3 : ∀ l, T a ≠ .obj l) (h4 : T a ≠ .data) (h5 : fx.fr a = none) (q : RepO G T μ H s.sto.length (H a) so) :
    Rel G fx ((.ref a, .obj s.sto.length) :: stk) { s with sto := s.sto ++ [so] } σ H := by
  have c : Chg T (Tset T a (.obj s.sto.length)) H H (fun b => b = a) := chg_tag h4
  have lv : ∀ t, T a ≠ t → Live T H (fun b => b = a) t := fun t ht => Live.tag ht
  have el : (s.sto ++ [so]).length = s.sto.length + 1 := by rw [List.length_append]; rfl
  have hm : ∀ l, l < s.sto.length → (fun l => if l = s.sto.length then a else μ l) l = μ l := fun l hl => if_neg (by omega)
  have hn : s.sto.length ≤ (s.sto ++ [so]).length := by omega
  have hs : (fun l => if l = s.sto.length then a else μ l) s.sto.length = a := if_pos rfl
  refine ⟨Tset T a (.obj s.sto.length), fun l => if l = s.sto.length then a else μ l, ⟨⟨⟨by show _ < (s.sto ++ [so]).length; omega, by rw [hs]⟩, h.stk.chg c hn hm (fun _ _ q => q) fun k hk => lv _ (h1 k hk)⟩, h.len, fun j av e => h.env_chg c hn hm (lv _ (h2 j)) e, fun l so' e => ?_, fun b o e => ?_, h.B_chg c, Nat.le_trans h.n0 hn, fun l hl => (hm l (Nat.lt_of_lt_of_le hl h.n0)).trans (h.mu l hl)⟩⟩
  · have e : (s.sto ++ [so])[l]? = some so' := e
    by_cases hl : l < s.sto.length
    · rw [List.getElem?_append_left hl] at e
      exact h.sto_chg c hn hm (lv _ (h3 l)) e
    · rw [List.getElem?_append_right (by omega)] at e
      have e0 : l = s.sto.length := by
        cases hk : l - s.sto.length with
        | zero => omega
        | succ m => rw [hk] at e; simp at e
      subst e0
      rw [Nat.sub_self] at e
      cases e
      show Tset T a _ ((fun l => if l = s.sto.length then a else μ l) s.sto.length) = _ ∧ RepO G _ _ H _ (H ((fun l => if l = s.sto.length then a else μ l) s.sto.length)) so
      rw [hs]
      exact ⟨Tset_same, q.chg c hn hm⟩
  · obtain ⟨e1, e2⟩ := h.fr b o e
    have hb : b ≠ a := fun z => by rw [z, h5] at e; cases e
    exact ⟨by rw [Tset_ne hb]; exact e1, e2⟩
theorem Rel.mkObj {ds : List PyData} (h : Rel G fx ((v, .own ds) :: stk) s σ H) : Rel G fx ((v, .obj s.sto.length) :: stk) { s with sto := s.sto ++ [.lst (ds.map .dat)] } σ H := by
  obtain ⟨T, μ, h⟩ := h
  obtain ⟨a, vs, rfl, hT, hH, hd⟩ := h.stk.1
  refine h.pop.newObj (fun k hk z => ?_) (fun i z => ?_) (fun l z => ?_) (fun z => ?_) ?_ ?_
  · rw [hT] at z; injection z with z; exact absurd hk (by omega)
  · rw [hT] at z; cases z
  · rw [hT] at z; cases z
  · rw [hT] at z; cases z
  · cases e : fx.fr a with
    | none => rfl
    | some o =>
      have := (h.fr a o e).1
      rw [hT] at this; cases this
  · rw [hH]; exact paired_dat hd
/-- into the store -/
def toObj : AV → Sx → Option (AV × Sx)
  | .dat d, s => some (.dat d, s)
  | .obj l, s => some (.obj l, s)
  | .own ds, s => some (.obj s.sto.length, { s with sto := s.sto ++ [.lst (ds.map .dat)] })
  | _, _ => none
def mObj (f : Sx → Res AV) : Sx → Res AV := mUn toObj f
theorem FE.obj {X : Cx} {W : WX} {e : Expr} {f1 : Sx → Res AV} (h : FE X W e f1) : FE X W e (mObj f1) := pe_imp h fun σ H Q ⟨fx, stk, s, h, p⟩ =>
  ⟨fx, stk, s, h, (Post.bind p).mono (fun b s1 p v H1 h1 => by
    obtain ⟨c, s', e, q⟩ := Post.ofO p
    cases b with
    | dat d => cases e; exact q v H1 h1
    | obj d => cases e; exact q v H1 h1
    | own d => cases e; exact q v H1 h1.mkObj
    | pk d => cases e
    | scr d => cases e) fun _ _ x => x⟩
end

/-! ### dicts with text keys -/
def getS (ks : List (Str × AV)) (k : Str) : Option AV := match ks with
  | [] => none
  | q :: r => if q.1 = k then some q.2 else getS r k
def putS (ks : List (Str × AV)) (k : Str) (v : AV) : List (Str × AV) := match ks with
  | [] => [(k, v)]
  | q :: r => if q.1 = k then (q.1, v) :: r else q :: putS r k v
abbrev PD (G : Kx) (T : Addr → Tag) (μ : Nat → Addr) (H : Hp) (n : Nat) : List (Key × V) → List (Str × AV) → Prop := Paired (fun (p : Key × V) (q : Str × AV) => p.1 = Sum.inr q.1 ∧ RepF G T μ H n p.2 q.2)
section
variable {G : Kx} {fx : Fx} {T U : Addr → Tag} {μ : Nat → Addr} {stk : List (V × AV)} {s s' : Sx} {σ : L2.St} {H : Hp} {n : Nat} {v w x y : V} {av bv : AV} {t : Tag} {a : Addr} {so : SO}
theorem pd_get : ∀ {kvs : List (Key × V)} {ks : List (Str × AV)} {k : Str}, PD G T μ H n kvs ks → getS ks k = some av → ∃ v, valV kvs (Sum.inr k) = some v ∧ RepF G T μ H n v av
  | [], [], k, _, e => by cases e
  | p :: kvs, q :: ks, k, h, e => by
    cases h with
    | cons h1 h2 =>
      unfold getS at e
      by_cases hk : q.1 = k
      · rw [if_pos hk] at e
        cases e
        exact ⟨p.2, valV_pos (h1.1.trans (congrArg _ hk)), h1.2⟩
      · rw [if_neg hk] at e
        obtain ⟨v, e1, e2⟩ := pd_get h2 e
        exact ⟨v, by rw [valV_neg (fun z => hk (Sum.inr.inj (h1.1.symm.trans z)))]; exact e1, e2⟩
  | [], _ :: _, _, h, _ => nomatch h
  | _ :: _, [], _, h, _ => nomatch h
theorem putK_nil {k : Key} : putK ([] : List (Key × V)) k v = [(k, v)] := rfl
theorem putK_pos {p : Key × V} {r : List (Key × V)} {k : Key} (hp : p.1 = k) (hn : ∀ q ∈ r, q.1 ≠ k) : putK (p :: r) k v = (p.1, v) :: r := by
  unfold putK
  rw [if_pos (by simp [hp]), List.map_cons, if_pos hp]
  congr 1
  refine (List.map_congr_left fun q hq => ?_).trans (List.map_id _)
  rw [if_neg (hn q hq)]; rfl
theorem putK_neg {p : Key × V} {r : List (Key × V)} {k : Key} (hp : ¬ p.1 = k) : putK (p :: r) k v = p :: putK r k v := by
  unfold putK
  have e : ((p :: r).any fun kv => decide (kv.1 = k)) = (r.any fun kv => decide (kv.1 = k)) := by simp [List.any_cons, hp]
  rw [e]
  by_cases h : (r.any fun kv => decide (kv.1 = k)) = true
  · rw [if_pos h, if_pos h, List.map_cons, if_neg hp]
  · rw [if_neg h, if_neg h]; rfl
theorem pd_keys : ∀ {kvs : List (Key × V)} {ks : List (Str × AV)}, PD G T μ H n kvs ks → kvs.map (·.1) = ks.map fun q => Sum.inr q.1
  | _, _, .nil => rfl
  | _, _, .cons h k => by rw [List.map_cons, List.map_cons, h.1, pd_keys k]
theorem pd_put {k : Str} (q : RepF G T μ H n v av) : ∀ {kvs : List (Key × V)} {ks : List (Str × AV)}, (ks.map (·.1)).Nodup → PD G T μ H n kvs ks → PD G T μ H n (putK kvs (Sum.inr k) v) (putS ks k av)
  | [], [], _, _ => .cons ⟨rfl, q⟩ .nil
  | p :: kvs, r :: ks, hnd, h => by
    cases h with
    | cons h1 h2 =>
      rw [List.map_cons, List.nodup_cons] at hnd
      unfold putS
      by_cases hk : r.1 = k
      · rw [if_pos hk, putK_pos (h1.1.trans (congrArg _ hk)) (fun z hz e => hnd.1 (by
          have m : z.1 ∈ kvs.map (·.1) := List.mem_map.mpr ⟨z, hz, rfl⟩
          rw [pd_keys h2, e] at m
          obtain ⟨z', hz', e'⟩ := List.mem_map.mp m
          exact List.mem_map.mpr ⟨z', hz', (Sum.inr.inj e').trans hk.symm⟩))]
        exact .cons ⟨h1.1, q⟩ h2
      · rw [if_neg hk, putK_neg (fun z => hk (Sum.inr.inj (h1.1.symm.trans z)))]
        exact .cons h1 (pd_put q hnd.2 h2)
  | [], _ :: _, _, h => nomatch h
  | _ :: _, [], _, h => nomatch h
theorem R.dict {l : Nat} {ks : List (Str × AV)} (h : R G fx T μ stk s σ H) (e : s.sto[l]? = some (.dic ks)) : ∃ kvs, H (μ l) = some (.dK kvs) ∧ PD G T μ H s.sto.length kvs ks := by
  obtain ⟨_, h2⟩ := h.sto l _ e
  obtain ⟨o, ho⟩ := h2.some
  rw [ho] at h2
  cases o with
  | dK kvs => exact ⟨kvs, ho, h2⟩
  | _ => exact h2.elim
end
def gDGet : AV → AV → Sx → Option (AV × Sx) := fun a b s => match a, b with
  | .obj l, .dat (.str k) => (match s.sto[l]? with
    | some (.dic ks) => (getS ks k).map fun av => (av, s)
    | _ => none)
  | _, _ => none
def rDGet : R2 := fun x y H Q => ∃ a v, x = .ref a ∧ DGet H a y (some v) ∧ Q v H
theorem v2_dget {G : Kx} : V2 G rDGet gDGet := fun fx stk s σ H x a y b h c s' e Q q => by
  unfold gDGet at e
  split at e
  · rename_i l k
    split at e
    · rename_i ks es
      obtain ⟨av, e1, e2⟩ := Option.map_eq_some_iff.mp e
      cases e2
      have hy : y = .str k := h.strV
      subst hy
      obtain ⟨T, μ, h⟩ := h
      obtain ⟨_, rfl⟩ := h.pop.stk.1
      obtain ⟨kvs, h1, h2⟩ := h.dict es
      obtain ⟨v, ev, fv⟩ := pd_get h2 e1
      refine ⟨μ l, v, rfl, ?_, q v H ⟨T, μ, h.pop.pop.push (RepF.r fv)⟩⟩
      have g := DGet.k (H := H) (a := μ l) (k := Sum.inr k) h1
      rw [ev] at g
      exact g
    · cases e
  · cases e
def mDPut (fo fi fv : Sx → Res AV) : Sx → Res Fl := fun s => (fv s).bind fun v s1 => if frA v = true then (fo s1).bind fun a s2 => (fi s2).bind fun i s3 => match a, i with
  | .obj l, .dat (.str k) => (match s3.sto[l]? with
    | some (.dic ks) => if (ks.map (·.1)).Nodup ∧ ks.length < LIM then .ok .next { s3 with sto := s3.sto.set l (.dic (putS ks k v)) } else .stuck
    | _ => .stuck)
  | _, _ => .stuck
  else .stuck
section
variable {X : Cx} {W : WX} {pos pos' : Pos} {o i value : Expr} {fo fi fv : Sx → Res AV}
theorem fe_dget (hu : X.A.units + 1 < cLine) (ho : FE X W o fo) (hi : FE X W i fi) (hs : NoSl i := by exact fun _ _ => rfl) : FE X W (.Subscript o i pos) (mOp gDGet fo fi) := pe_imp (pe_dget hu ho hi hs) (op_step v2_dget)
theorem fs_dput (hu : X.A.units + 1 < cLine) (ho : FE X W o fo) (hi : FE X W i fi) (hv : FE X W value fv) (hs : swapsWith value (some (.Subscript o i pos')) pos.line X.env = pure false := by rfl) :
    FS X W (.Assign [.Subscript o i pos'] value pos) (mDPut fo fi fv) := ps_imp (ps_dput hu ho hi hv hs) fun D σ H ⟨fx, stk, s, hn, h, p⟩ =>
  ⟨fx, stk, s, h, (Post.bind p).mono (fun av s1 p v H1 h1 => by
    by_cases hf : frA av = true
    · rw [if_pos hf] at p
      refine ⟨fx, _, s1, h1, (Post.bind p).mono (fun a s2 p x H2 h2 => ⟨fx, _, s2, h2, (Post.bind p).mono (fun b s3 p y H3 h3 => ?_) fun _ _ x => x.to.up.up⟩) fun _ _ x => x.to.up⟩
      split at p
      · rename_i l k pp
        split at p
        · rename_i ks es
          by_cases hc : (ks.map (·.1)).Nodup ∧ ks.length < LIM
          · rw [if_pos hc] at p
            have hy : y = .str k := h3.strV
            subst hy
            obtain ⟨T, μ, h3⟩ := h3
            obtain ⟨_, rfl⟩ := h3.pop.stk.1
            obtain ⟨kvs, g1, g2⟩ := h3.dict es
            have q := pd_put (k := k) (Rep.f hf h3.pop.pop.stk.1) hc.1 g2
            refine ⟨μ l, _, rfl, DPut.k (k := Sum.inr k) g1 (by rw [paired_len g2, lim_eq]; exact hc.2), ?_⟩
            exact p σ _ ⟨T, μ, h3.pop.pop.pop.updObj es q⟩
          · rw [if_neg hc] at p; exact p.elim
        · exact p.elim
      · exact p.elim
    · rw [if_neg hf] at p; exact p.elim) fun _ _ x => x.to⟩
end

/-! ### displays -/
abbrev Its := List (Str × (Sx → Res AV))
def mVals : Its → Sx → Res (List AV)
  | [] => mNil
  | q :: r => mCons q.2 (mVals r)
def trsOf (G : Kx) (W : WX) (its : Its) : List (TE × TE) := its.map fun q => (tC (.str q.1), tOf G W q.2)
theorem pairs_step {G : Kx} {W : WX} : ∀ (its : Its) (σ : L2.St) (H : Hp) (Q : List (V × V) → Hp → Prop) (fx : Fx) (stk : List (V × AV)) (s : Sx), Rel G fx stk s σ H →
    Post (mVals its s) (fun avs s' => ∀ (ps : List (V × AV)) H', ps.map (·.2) = avs → Rel G fx (ps.reverse ++ stk) s' σ H' → Q ((its.map fun q => V.str q.1).zip (ps.map (·.1))) H') (Xw G W fx stk σ) → tPairs (trsOf G W its) σ H Q
  | [], σ, H, Q, fx, stk, s, h, p => p [] H rfl h
  | q :: r, σ, H, Q, fx, stk, s, h, p => ⟨fx, stk, s, h, (Post.bind p).mono (fun a s1 p v H1 h1 => pairs_step r σ H1 _ fx _ s1 h1 ((Post.bind p).mono (fun as s2 p ps H2 e h2 => by
      have z := p ((v, a) :: ps) H2 (by rw [List.map_cons, e]) (by rw [List.reverse_cons, List.append_assoc]; exact h2)
      exact z) fun _ _ x => x.up)) fun _ _ x => x⟩
theorem R.weak {G : Kx} {fx : Fx} {T : Addr → Tag} {μ : Nat → Addr} {stk : List (V × AV)} {s : Sx} {σ : L2.St} {H : Hp} {fr' : Hp} (le : Le fx.fr fr') (h : R G { fx with fr := fr' } T μ stk s σ H) : R G fx T μ stk s σ H := ⟨h.stk, h.len, h.env, h.sto, fun a o e => h.fr a o (le a o e), h.B, h.n0, h.mu⟩
theorem mergeK_nodup : ∀ (more acc : List (Key × V)), ((acc ++ more).map (·.1)).Nodup → mergeK acc more = acc ++ more
  | [], acc, _ => by rw [List.append_nil]; rfl
  | p :: r, acc, h => by
    have e : putK acc p.1 p.2 = acc ++ [p] := by
      unfold putK
      rw [if_neg]
      intro z
      obtain ⟨q, hq, e⟩ := List.any_eq_true.mp z
      rw [List.map_append, List.map_cons, List.nodup_append] at h
      exact h.2.2 q.1 (List.mem_map.mpr ⟨q, hq, rfl⟩) p.1 (List.mem_cons_self ..) (of_decide_eq_true e)
    show mergeK (putK acc p.1 p.2) r = _
    rw [e, mergeK_nodup r (acc ++ [p]) (by rw [List.append_assoc]; exact h), List.append_assoc]
    rfl
def mDic (its : Its) : Sx → Res AV := fun s => (mVals its s).bind fun avs s1 => if avs.all frA = true ∧ (its.map (·.1)).Nodup ∧ its.length ≤ 15 then .ok (.obj s1.sto.length) { s1 with sto := s1.sto ++ [.dic ((its.map (·.1)).zip avs)] } else .stuck
theorem pd_zip {G : Kx} {T : Addr → Tag} {μ : Nat → Addr} {σ : L2.St} {H : Hp} {n : Nat} : ∀ {ks : List Str} {ps : List (V × AV)}, (∀ p ∈ ps, ∃ t, Rep G T μ σ H n t p.1 p.2) → (ps.map (·.2)).all frA = true → PD G T μ H n ((ks.map fun k => (Sum.inr k : Key)).zip (ps.map (·.1))) (ks.zip (ps.map (·.2)))
  | [], _, _, _ => .nil
  | _ :: _, [], _, _ => .nil
  | k :: ks, p :: ps, h, ha => by
    rw [List.map_cons, List.all_cons, Bool.and_eq_true] at ha
    obtain ⟨t, r⟩ := h p (List.mem_cons_self ..)
    exact .cons ⟨rfl, Rep.f ha.1 r⟩ (pd_zip (fun q hq => h q (List.mem_cons_of_mem _ hq)) ha.2)
theorem zip_kv : ∀ (ks : List Str) (vs : List V), (ks.map V.str).zip vs = ((ks.map fun k => (Sum.inr k : Key)).zip vs).map fun kv => (kV kv.1, kv.2)
  | [], _ => rfl
  | _ :: _, [] => rfl
  | k :: ks, v :: vs => by
    rw [List.map_cons, List.map_cons, List.zip_cons_cons, List.zip_cons_cons, List.map_cons, zip_kv ks vs]
    rfl
theorem zip_nodup : ∀ {ks : List Str} (avs : List AV), ks.Nodup → ((ks.zip avs).map fun q => (Sum.inr q.1 : Key)).Nodup
  | [], _, _ => List.nodup_nil
  | _ :: _, [], _ => List.nodup_nil
  | k :: ks, a :: avs, h => by
    rw [List.nodup_cons] at h
    rw [List.zip_cons_cons, List.map_cons, List.nodup_cons]
    refine ⟨fun z => ?_, zip_nodup avs h.2⟩
    obtain ⟨q, hq, e⟩ := List.mem_map.mp z
    have e2 : q.1 = k := Sum.inr.inj e
    exact h.1 (e2 ▸ (List.of_mem_zip (a := q.1) (b := q.2) hq).1)
def FD (X : Cx) (W : WX) (pos : Pos) (keys : List (Option Expr)) (values : List Expr) (its : Its) : Prop := PPs X pos keys values (trsOf (gx X) W its)
section
variable {X : Cx} {W : WX} {pos p2 : Pos} {keys : List (Option Expr)} {values : List Expr} {its : Its} {v : Expr} {f : Sx → Res AV} {k : Str} {j : Nat}
theorem fd_nil : FD X W pos [] [] [] := pps_nil
theorem fd_cons (hv : FE X W v f) (hr : FD X W pos keys values its) : FD X W pos (some (.Constant (.str k) j p2) :: keys) (v :: values) ((k, f) :: its) := pps_cons pe_str hv hr
theorem fe_dic (h : FD X W pos keys values its) (hall : keys.all (·.isSome) = true := by rfl) (hl : keys.length = values.length := by rfl) (h0 : keys ≠ [] := by exact fun z => nomatch z) (h15 : keys.length ≤ 15 := by decide) : FE X W (.Dict keys values pos) (mDic its) :=
  pe_imp (pe_disp h hall hl h0 h15) fun σ H Q ⟨fx, stk, s, h, p⟩ r hr => by
    obtain ⟨T, μ, h⟩ := h
    have fr0 : fx.fr r = none := by
      cases e : fx.fr r with
      | none => rfl
      | some o => have := (h.fr r o e).2; rw [hr] at this; cases this
    have le : Le fx.fr (fun a => if a = r then some (.dK []) else fx.fr a) := fun a o e => by
      show (if a = r then _ else _) = _
      rw [if_neg (fun z => by rw [z, fr0] at e; cases e)]; exact e
    have h1 := h.fresh (o := .dK []) hr .fr
    have h1 : R (gx X) { fx with fr := fun a => if a = r then some (.dK []) else fx.fr a } (Tset T r .fr) μ stk s σ (upd H r (.dK [])) := ⟨h1.stk, h1.len, h1.env, h1.sto, fun a o e => by
      have e : (if a = r then some (.dK []) else fx.fr a) = some o := e
      by_cases ha : a = r
      · rw [if_pos ha] at e
        cases e
        rw [ha]
        exact ⟨Tset_same, upd_same⟩
      · rw [if_neg ha] at e
        exact h1.fr a o e, h1.B, h1.n0, h1.mu⟩
    refine pairs_step its σ _ _ _ stk s ⟨_, _, h1⟩ ((Post.bind p).mono (fun avs s1 p ps H2 e h2 => ?_) fun e s' x c d H' ⟨T', μ', h', q⟩ => x c d H' ⟨T', μ', h'.weak le, q⟩)
    subst e
    obtain ⟨U, ν, h2⟩ := h2
    by_cases hc : (ps.map (·.2)).all frA = true ∧ (its.map (·.1)).Nodup ∧ its.length ≤ 15
    · rw [if_pos hc] at p
      obtain ⟨e1, e2⟩ := h2.fr r (.dK []) (if_pos rfl)
      have hp : PD (gx X) U ν H2 s1.sto.length (((its.map (·.1)).map fun k => (Sum.inr k : Key)).zip (ps.map (·.1))) ((its.map (·.1)).zip (ps.map (·.2))) := pd_zip (σ := σ) (fun q hq => h2.stk.rep' q (List.mem_append_left _ (List.mem_reverse.mpr hq))) hc.1
      have h3 := (h2.drop).weak le
      have c : Chg U U H2 (upd H2 r (.dK (((its.map (·.1)).map fun k => (Sum.inr k : Key)).zip (ps.map (·.1))))) (fun a => a = r) := chg_upd (by rw [e1]; exact fun z => nomatch z)
      have lv : ∀ t, t ≠ .fr → Live U H2 (fun b => b = r) t := fun t ht => Live.tag (by rw [e1]; exact fun z => ht z.symm)
      have h4 : R (gx X) fx U ν stk s1 σ (upd H2 r (.dK (((its.map (·.1)).map fun k => (Sum.inr k : Key)).zip (ps.map (·.1))))) := ⟨h3.stk.chg c (Nat.le_refl _) (fun _ _ => rfl) (fun _ _ q => q) fun k _ => lv _ (fun z => nomatch z), h3.len, fun j av e => h3.env_chg c (Nat.le_refl _) (fun _ _ => rfl) (lv _ (fun z => nomatch z)) e,
        fun l so e => h3.sto_chg c (Nat.le_refl _) (fun _ _ => rfl) (lv _ (fun z => nomatch z)) e, fun a o e => by
          have ha : a ≠ r := fun z => by rw [z, fr0] at e; cases e
          exact ⟨(h3.fr a o e).1, by rw [upd_ne ha]; exact (h3.fr a o e).2⟩, h3.B_chg c, h3.n0, h3.mu⟩
      refine ⟨e2, ((its.map (·.1)).map fun k => (Sum.inr k : Key)).zip (ps.map (·.1)), ?_, ?_, ?_⟩
      · have e := zip_kv (its.map (·.1)) (ps.map (·.1))
        rw [List.map_map] at e
        exact e
      · rw [List.length_zip, List.length_map, List.length_map]
        exact Nat.le_trans (Nat.min_le_left _ _) hc.2.2
      · have nd : ((([] : List (Key × V)) ++ ((its.map (·.1)).map fun k => (Sum.inr k : Key)).zip (ps.map (·.1))).map (·.1)).Nodup := by
          rw [List.nil_append, pd_keys hp]
          exact zip_nodup _ hc.2.1
        rw [mergeK_nodup _ _ nd, List.nil_append]
        refine p (.ref r) _ (h4.newObj (fun k _ z => ?_) (fun i z => ?_) (fun l z => ?_) (fun z => ?_) fr0 ?_)
        · rw [e1] at z; cases z
        · rw [e1] at z; cases z
        · rw [e1] at z; cases z
        · rw [e1] at z; cases z
        · rw [upd_same]
          exact Paired.imp hp fun _ _ q => ⟨q.1, q.2.chg c (Nat.le_refl _) fun _ _ => rfl⟩
    · rw [if_neg hc] at p; exact p.elim
end
end Fe

/-! Fe15: calls of built-ins. -/
namespace Fe
open PySem PySem.Spec PyProof.Rows L2
def mFn (g : List AV → Sx → Option (AV × Sx)) (fs : Sx → Res (List AV)) : Sx → Res AV := fun s => (fs s).bind fun as s1 => ofO (g as s1)
def orN (g g' : List AV → Sx → Option (AV × Sx)) : List AV → Sx → Option (AV × Sx) := fun as s => match g as s with | some r => some r | none => g' as s
section
variable {X : Cx} {W : WX} {pos p : Pos} {e : Expr} {es : List Expr} {fs : Sx → Res (List AV)} {id T : String} {r r' : List V → Hp → VK → Prop} {g g' : List AV → Sx → Option (AV × Sx)} {x : Str} {G : Kx}
theorem VN.or (h : VN G r g) (h' : VN G r' g') : VN G (fun xs H Q => r xs H Q ∨ r' xs H Q) (orN g g') := fun fx stk s σ H ps h1 c s' e Q q => by
  unfold orN at e
  split at e
  · rename_i r0 e0
    cases e
    exact .inl (h fx stk s σ H ps h1 c s' e0 Q q)
  · exact .inr (h' fx stk s σ H ps h1 c s' e Q q)
theorem fn_step {W : WX} (hv : VN G r g) : ∀ σ H Q, tOf G W (mFn g fs) σ H Q → tCB r (tAOf G W fs) σ H Q := fun σ H Q ⟨fx, stk, s, h, p⟩ =>
  ⟨fx, stk, s, h, (Post.bind p).mono (fun as s1 p ps H1 e1 h1 => by
    subst e1
    obtain ⟨c, s', e, q⟩ := Post.ofO p
    exact hv fx stk s1 σ H1 ps h1 c s' e Q q) fun _ _ x => x⟩
theorem fe_fn (hc : CallR X (.builtin id) r) (hv : VN (gx X) r g) (hm : X.mg x = none) (ha : FA X W (e :: es) fs) (hb : bootBuiltins x = some (.builtin id) := by first | rfl | decide +kernel) (hg : Gl X x := by rfl) (hn : x ≠ "__name__" := by decide) (hdb : (x == ("__debug__" : Str)) = false := by decide)
    (he : starEach (e :: es) X.env = (false, eval e X.env) :: starEach es X.env := by rfl) (hpl : (backTo pos (starEach es X.env)).any (·.1) = false := by rfl) : FE X W (.Call (.Name x p) (e :: es) [] pos) (mFn g fs) := pe_imp (pe_callB hc hg hm hb ha hn hdb he hpl) (fn_step hv)
theorem fe_ty (hc : CallR X (.type T) r) (hv : VN (gx X) r g) (hm : X.mg x = none) (ha : FA X W (e :: es) fs) (hb : bootBuiltins x = some (.type T) := by first | rfl | decide +kernel) (hg : Gl X x := by rfl) (hn : x ≠ "__name__" := by decide) (hdb : (x == ("__debug__" : Str)) = false := by decide)
    (he : starEach (e :: es) X.env = (false, eval e X.env) :: starEach es X.env := by rfl) (hpl : (backTo pos (starEach es X.env)).any (·.1) = false := by rfl) : FE X W (.Call (.Name x p) (e :: es) [] pos) (mFn g fs) := pe_imp (pe_callTy hc hg hm hb ha hn hdb he hpl) (fn_step hv)
end
/-! ### one value -/
def V1X (G : Kx) (r : V → Hp → VK → Prop) (g : AV → Sx → Option (AV × Sx)) : Prop := V1 G r g
def g1 (g : AV → Sx → Option (AV × Sx)) : List AV → Sx → Option (AV × Sx) := fun as s => match as with
  | [a] => g a s
  | _ => none
section
variable {G : Kx} {r : List V → Hp → VK → Prop} {g : AV → Sx → Option (AV × Sx)}
theorem vn1 (h : V1 G (fun x => r [x]) g) : VN G r (g1 g) := fun fx stk s σ H ps h1 c s' e Q q => by
  match ps with
  | [] => cases e
  | [(x, a)] => exact h fx stk s σ H x a h1 c s' e Q q
  | _ :: _ :: _ => cases e
def gAbs : AV → Sx → Option (AV × Sx) := fun a s => match a with
  | .dat (.int i) => some (.dat (.int (if i < 0 then -i else i)), s)
  | _ => none
theorem v_abs : VN G (fun xs H Q => ∃ i, xs = [.int i] ∧ Q (.int (if i < 0 then -i else i)) H) (g1 gAbs) := vn1 fun fx stk s σ H x a h c s' e Q q => by
  unfold gAbs at e
  split at e
  · rename_i i
    cases e
    have hx := h.intV
    subst hx
    exact ⟨i, rfl, q _ _ (h.pop.scal fun _ => .int _)⟩
  · cases e
def gInt : AV → Sx → Option (AV × Sx) := fun a s => match a with
  | .dat (.int i) => some (.dat (.int i), s)
  | .dat (.bool k) => some (.dat (.int (if k then 1 else 0)), s)
  | _ => none
theorem v_int : VN G (fun xs H Q => (∃ i, xs = [.int i] ∧ Q (.int i) H) ∨ ∃ k, xs = [.bl k] ∧ Q (.int (if k then 1 else 0)) H) (g1 gInt) := vn1 fun fx stk s σ H x a h c s' e Q q => by
  unfold gInt at e
  split at e
  · rename_i i
    cases e
    have hx := h.intV
    subst hx
    exact .inl ⟨i, rfl, q _ _ h⟩
  · rename_i i
    cases e
    have hx := h.bl
    subst hx
    exact .inr ⟨i, rfl, q _ _ (h.pop.scal fun _ => .int _)⟩
  · cases e
def gLen : AV → Sx → Option (AV × Sx) := fun a s => match lookQ s a with
  | some ds => some (.dat (.int ds.length), s)
  | none => match rdL s a with
    | some xs => some (.dat (.int xs.length), s)
    | none => match a with
      | .scr ns => some (.dat (.int ns.length), s)
      | .dat (.str x) => if x.length ≤ LIM then some (.dat (.int x.length), s) else none
      | _ => none
theorem v_len : VN G (fun xs H Q => ∃ x n, xs = [x] ∧ LenV G.K x H n ∧ Q (.int n) H) (g1 gLen) := vn1 fun fx stk s σ H x a h c s' e Q q => by
  unfold gLen at e
  split at e
  · rename_i ds e1
    cases e
    obtain ⟨T, μ, h⟩ := h
    refine ⟨x, ds.length, rfl, ?_, q _ _ ⟨T, μ, h.pop.push (.int _)⟩⟩
    rcases h.lookQd h.stk.1 e1 with z | z
    · cases z with
      | lst h1 h2 => exact .inl ⟨_, SqL.of h1, (dqAll_len h2).symm⟩
    · cases z with
      | tup h1 h2 => exact .inr ⟨_, h1, (dqAll_len h2).symm⟩
  · split at e
    · rename_i xs e1
      cases e
      obtain ⟨T, μ, h⟩ := h
      obtain ⟨l, vs, rfl, hl, hp, _⟩ := h.list h.stk.1 e1
      exact ⟨_, xs.length, rfl, .inl ⟨vs, SqL.of hl, (paired_len hp).symm⟩, q _ _ ⟨T, μ, h.pop.push (.int _)⟩⟩
    · split at e
      · rename_i ns _ _
        cases e
        obtain ⟨T, μ, h⟩ := h
        obtain ⟨l, rfl, h1⟩ := h.stk.1
        exact ⟨_, ns.length, rfl, .inl ⟨_, dh_le.sqL h1, by rw [List.length_map]⟩, q _ _ ⟨T, μ, h.pop.push (.int _)⟩⟩
      · rename_i y _ _
        split at e
        · rename_i hl
          cases e
          have hx := h.strV
          subst hx
          exact ⟨_, y.length, rfl, ⟨by rw [lim_eq]; exact hl, rfl⟩, q _ _ (h.pop.scal fun _ => .int _)⟩
        · cases e
      · cases e
/-! ### lists of ints -/
def intsD : List PyData → Option (List Int)
  | [] => some []
  | .int i :: r => (intsD r).map (i :: ·)
  | _ :: _ => none
theorem intsD_some : ∀ {ds : List PyData} {ns : List Int}, intsD ds = some ns → ds = ns.map .int
  | [], _, e => by cases e; rfl
  | .int i :: r, ns, e => by
    obtain ⟨ms, e1, e2⟩ := Option.map_eq_some_iff.mp e
    subst e2
    rw [intsD_some e1]; rfl
  | .none :: _, _, e => nomatch e
  | .bool _ :: _, _, e => nomatch e
  | .str _ :: _, _, e => nomatch e
  | .list _ :: _, _, e => nomatch e
  | .tuple _ :: _, _, e => nomatch e
  | .dict _ :: _, _, e => nomatch e
theorem dq_intsV {K : PySem.W.Frag} {A : Hp} : ∀ {ns : List Int} {vs : List V}, DqAll K A vs (ns.map .int) → vs = ns.map V.int
  | [], _, h => by cases h; rfl
  | n :: ns, _, h => by
    cases h with
    | cons h1 h2 =>
      cases h1
      rw [dq_intsV h2]; rfl
def boolsD : List PyData → Option (List Bool)
  | [] => some []
  | .bool i :: r => (boolsD r).map (i :: ·)
  | _ :: _ => none
theorem boolsD_some : ∀ {ds : List PyData} {ns : List Bool}, boolsD ds = some ns → ds = ns.map .bool
  | [], _, e => by cases e; rfl
  | .bool i :: r, ns, e => by
    obtain ⟨ms, e1, e2⟩ := Option.map_eq_some_iff.mp e
    subst e2
    rw [boolsD_some e1]; rfl
  | .none :: _, _, e => nomatch e
  | .int _ :: _, _, e => nomatch e
  | .str _ :: _, _, e => nomatch e
  | .list _ :: _, _, e => nomatch e
  | .tuple _ :: _, _, e => nomatch e
  | .dict _ :: _, _, e => nomatch e
theorem dq_boolsV {K : PySem.W.Frag} {A : Hp} : ∀ {ns : List Bool} {vs : List V}, DqAll K A vs (ns.map .bool) → vs = ns.map V.bl
  | [], _, h => by cases h; rfl
  | n :: ns, _, h => by
    cases h with
    | cons h1 h2 =>
      cases h1
      rw [dq_boolsV h2]; rfl
def lookI (s : Sx) (a : AV) : Option (List Int) := match lookA s a with
  | some (.list ds) => intsD ds
  | _ => none
theorem R.lookI {fx : Fx} {T : Addr → Tag} {μ : Nat → Addr} {stk : List (V × AV)} {s : Sx} {σ : L2.St} {H : Hp} {v : V} {av : AV} {t : Tag} {ns : List Int} (h : R G fx T μ stk s σ H) (hr : Rep G T μ σ H s.sto.length t v av) (e : Fe.lookI s av = some ns) :
    ∃ l, v = .ref l ∧ H l = some (.lst (ns.map V.int)) := by
  unfold Fe.lookI at e
  split at e
  · rename_i ds e1
    obtain ⟨l, vs, rfl, hl, q⟩ := h.lookL hr e1
    rw [intsD_some e] at q
    rw [dq_intsV q] at hl
    exact ⟨l, rfl, hl⟩
  · cases e
def gSum : AV → Sx → Option (AV × Sx) := fun a s => (lookI s a).map fun ns => (.dat (.int ns.sum), s)
theorem v_sum : VN G (rSum G.K) (g1 gSum) := vn1 fun fx stk s σ H x a h c s' e Q q => by
  obtain ⟨ns, e1, e2⟩ := Option.map_eq_some_iff.mp e
  cases e2
  obtain ⟨T, μ, h⟩ := h
  obtain ⟨l, rfl, hl⟩ := h.lookI h.stk.1 e1
  exact ⟨l, ns, rfl, SqL.of hl, q _ _ ⟨T, μ, h.pop.push (.int _)⟩⟩
def maxL : List Int → Int
  | [] => 0
  | [x] => x
  | x :: y :: r => max x (maxL (y :: r))
def minL : List Int → Int
  | [] => 0
  | [x] => x
  | x :: y :: r => min x (minL (y :: r))
theorem maxL_spec : ∀ {ns : List Int} {m : Int}, m ∈ ns → (∀ y, y ∈ ns → y ≤ m) → maxL ns = m
  | [], m, h, _ => nomatch h
  | [x], m, h, _ => by simp at h; exact h.symm
  | x :: y :: r, m, h, hy => by
    show max x (maxL (y :: r)) = m
    have hx := hy x (List.mem_cons_self ..)
    rcases List.mem_cons.mp h with e | h'
    · subst e
      have up : ∀ l : List Int, (∀ z ∈ l, z ≤ m) → l ≠ [] → maxL l ≤ m := by
        intro l
        induction l with
        | nil => intro _ z; exact absurd rfl z
        | cons a l ih =>
          intro hl _
          cases l with
          | nil => exact hl a (List.mem_cons_self ..)
          | cons b l => exact Int.max_le.mpr ⟨hl a (List.mem_cons_self ..), ih (fun z hz => hl z (List.mem_cons_of_mem _ hz)) (fun z => nomatch z)⟩
      have := up (y :: r) (fun z hz => hy z (List.mem_cons_of_mem _ hz)) (fun z => nomatch z)
      omega
    · rw [maxL_spec h' fun z hz => hy z (List.mem_cons_of_mem _ hz)]
      omega
theorem minL_spec : ∀ {ns : List Int} {m : Int}, m ∈ ns → (∀ y, y ∈ ns → m ≤ y) → minL ns = m
  | [], m, h, _ => nomatch h
  | [x], m, h, _ => by simp at h; exact h.symm
  | x :: y :: r, m, h, hy => by
    show min x (minL (y :: r)) = m
    have hx := hy x (List.mem_cons_self ..)
    rcases List.mem_cons.mp h with e | h'
    · subst e
      have up : ∀ l : List Int, (∀ z ∈ l, m ≤ z) → l ≠ [] → m ≤ minL l := by
        intro l
        induction l with
        | nil => intro _ z; exact absurd rfl z
        | cons a l ih =>
          intro hl _
          cases l with
          | nil => exact hl a (List.mem_cons_self ..)
          | cons b l => exact Int.le_min.mpr ⟨hl a (List.mem_cons_self ..), ih (fun z hz => hl z (List.mem_cons_of_mem _ hz)) (fun z => nomatch z)⟩
      have := up (y :: r) (fun z hz => hy z (List.mem_cons_of_mem _ hz)) (fun z => nomatch z)
      omega
    · rw [minL_spec h' fun z hz => hy z (List.mem_cons_of_mem _ hz)]
      omega
def gMaxL : AV → Sx → Option (AV × Sx) := fun a s => match lookI s a with
  | some ns => if 0 < ns.length then some (.dat (.int (maxL ns)), s) else none
  | none => none
def gMinL : AV → Sx → Option (AV × Sx) := fun a s => match lookI s a with
  | some ns => if 0 < ns.length then some (.dat (.int (minL ns)), s) else none
  | none => none
theorem v_maxL : VN G (rMax G.K) (g1 gMaxL) := vn1 fun fx stk s σ H x a h c s' e Q q => by
  unfold gMaxL at e
  split at e
  · rename_i ns e1
    split at e
    · rename_i hl
      cases e
      obtain ⟨T, μ, h⟩ := h
      obtain ⟨l, rfl, h2⟩ := h.lookI h.stk.1 e1
      refine ⟨l, ns, rfl, SqL.of h2, hl, fun m hm hy => ?_⟩
      rw [← maxL_spec hm hy]
      exact q _ _ ⟨T, μ, h.pop.push (.int _)⟩
    · cases e
  · cases e
theorem v_minL : VN G (rMin G.K) (g1 gMinL) := vn1 fun fx stk s σ H x a h c s' e Q q => by
  unfold gMinL at e
  split at e
  · rename_i ns e1
    split at e
    · rename_i hl
      cases e
      obtain ⟨T, μ, h⟩ := h
      obtain ⟨l, rfl, h2⟩ := h.lookI h.stk.1 e1
      refine ⟨l, ns, rfl, SqL.of h2, hl, fun m hm hy => ?_⟩
      rw [← minL_spec hm hy]
      exact q _ _ ⟨T, μ, h.pop.push (.int _)⟩
    · cases e
  · cases e
def gI2 (f : Int → Int → Int) : List AV → Sx → Option (AV × Sx) := fun as s => match as with
  | [.dat (.int i), .dat (.int j)] => some (.dat (.int (f i j)), s)
  | _ => none
theorem v_I2 (f : Int → Int → Int) : VN G (fun xs H Q => ∃ i j, xs = [.int i, .int j] ∧ Q (.int (f i j)) H) (gI2 f) := fun fx stk s σ H ps h c s' e Q q => by
  unfold gI2 at e
  split at e
  · rename_i i j eas
    match ps, eas with
    | [(v, av), (w, bv)], eas =>
      cases e
      cases eas
      have h0 : Rel G fx ((w, .dat (.int j)) :: (v, .dat (.int i)) :: stk) s σ H := h
      have hw := h0.intV
      have hv := h0.pop.intV
      subst hw hv
      exact ⟨i, j, rfl, q _ _ (h0.pop.pop.scal fun _ => .int _)⟩
  · cases e
def lookB (s : Sx) (a : AV) : Option (List Bool) := match lookA s a with
  | some (.list ds) => boolsD ds
  | _ => none
def gAny : AV → Sx → Option (AV × Sx) := fun a s => (lookB s a).map fun ns => (.dat (.bool (ns.any id)), s)
def gAll : AV → Sx → Option (AV × Sx) := fun a s => (lookB s a).map fun ns => (.dat (.bool (ns.all id)), s)
theorem R.lookB {fx : Fx} {T : Addr → Tag} {μ : Nat → Addr} {stk : List (V × AV)} {s : Sx} {σ : L2.St} {H : Hp} {v : V} {av : AV} {t : Tag} {ns : List Bool} (h : R G fx T μ stk s σ H) (hr : Rep G T μ σ H s.sto.length t v av) (e : Fe.lookB s av = some ns) :
    ∃ l, v = .ref l ∧ H l = some (.lst (ns.map V.bl)) := by
  unfold Fe.lookB at e
  split at e
  · rename_i ds e1
    obtain ⟨l, vs, rfl, hl, q⟩ := h.lookL hr e1
    rw [boolsD_some e] at q
    rw [dq_boolsV q] at hl
    exact ⟨l, rfl, hl⟩
  · cases e
theorem v_any : VN G (rAny G.K) (g1 gAny) := vn1 fun fx stk s σ H x a h c s' e Q q => by
  obtain ⟨ns, e1, e2⟩ := Option.map_eq_some_iff.mp e
  cases e2
  obtain ⟨T, μ, h⟩ := h
  obtain ⟨l, rfl, hl⟩ := h.lookB h.stk.1 e1
  exact ⟨l, ns, rfl, SqL.of hl, q _ _ ⟨T, μ, h.pop.push (.bl _)⟩⟩
theorem v_all : VN G (rAll G.K) (g1 gAll) := vn1 fun fx stk s σ H x a h c s' e Q q => by
  obtain ⟨ns, e1, e2⟩ := Option.map_eq_some_iff.mp e
  cases e2
  obtain ⟨T, μ, h⟩ := h
  obtain ⟨l, rfl, hl⟩ := h.lookB h.stk.1 e1
  exact ⟨l, ns, rfl, SqL.of hl, q _ _ ⟨T, μ, h.pop.push (.bl _)⟩⟩
/-! ### tuple(xs), list(xs) -/
def gTuple : AV → Sx → Option (AV × Sx) := fun a s => match lookA s a with
  | some (.list ds) => some (.dat (.tuple ds), s)
  | some (.tuple ds) => some (.dat (.tuple ds), s)
  | _ => none
def gList : AV → Sx → Option (AV × Sx) := fun a s => match lookA s a with
  | some (.list ds) => some (.own ds, s)
  | some (.tuple ds) => some (.own ds, s)
  | _ => none
theorem v_tuple : VN G (fun xs H Q => ∃ p ys, xs = [.ref p] ∧ ((SqL G.K H p ys ∧ ∀ l, H l = none → Q (.ref l) (upd H l (.tup ys))) ∨ (SqT G.K H p ys ∧ Q (.ref p) H))) (g1 gTuple) := vn1 fun fx stk s σ H x a h c s' e Q q => by
  unfold gTuple at e
  split at e
  · rename_i ds e1
    cases e
    obtain ⟨T, μ, h⟩ := h
    obtain ⟨l, vs, rfl, hl, hd⟩ := h.lookL h.stk.1 e1
    exact ⟨l, vs, rfl, .inl ⟨SqL.of hl, fun b hb => q _ _ (Rel.newTup h.pop hb hd)⟩⟩
  · rename_i ds e1
    cases e
    obtain ⟨T, μ, h⟩ := h
    obtain ⟨l, vs, rfl, hl, hd⟩ := h.lookT h.stk.1 e1
    exact ⟨l, vs, rfl, .inr ⟨dh_le.sqT hl, q _ _ ⟨T, μ, h.pop.push (.tup hl hd)⟩⟩⟩
  · cases e
theorem v_list : VN G (fun xs H Q => ∃ p ys, xs = [.ref p] ∧ (SqL G.K H p ys ∨ SqT G.K H p ys) ∧ ∀ l, H l = none → Q (.ref l) (upd H l (.lst ys))) (g1 gList) := vn1 fun fx stk s σ H x a h c s' e Q q => by
  unfold gList at e
  split at e
  · rename_i ds e1
    cases e
    obtain ⟨T, μ, h⟩ := h
    obtain ⟨l, vs, rfl, hl, hd⟩ := h.lookL h.stk.1 e1
    exact ⟨l, vs, rfl, .inl (SqL.of hl), fun b hb => q _ _ (Rel.newOwn h.pop hb hd)⟩
  · rename_i ds e1
    cases e
    obtain ⟨T, μ, h⟩ := h
    obtain ⟨l, vs, rfl, hl, hd⟩ := h.lookT h.stk.1 e1
    exact ⟨l, vs, rfl, .inr (dh_le.sqT hl), fun b hb => q _ _ (Rel.newOwn h.pop hb hd)⟩
  · cases e
/-! ### repr(x) -/
def reprOk (d : PyData) : Bool := PyData.showable d && (!PyData.hasDict d && (decide (d.depth ≤ 64) && decide (d.shown.length ≤ LIM)))
def rRepr (K : PySem.W.Frag) : List V → Hp → VK → Prop := fun xs H Q => ∃ x d, xs = [x] ∧ Dq K H x d ∧ reprOk d = true ∧ Q (.str d.shown) H
def gRepr : AV → Sx → Option (AV × Sx) := fun a s => match lookA s a with
  | some d => if reprOk d = true then some (.dat (.str d.shown), s) else none
  | none => none
theorem v_repr : VN G (rRepr G.K) (g1 gRepr) := vn1 fun fx stk s σ H x a h c s' e Q q => by
  unfold gRepr at e
  split at e
  · rename_i d e1
    split at e
    · rename_i hd
      cases e
      obtain ⟨T, μ, h⟩ := h
      exact ⟨x, d, rfl, h.look h.stk.1 e1, hd, q _ _ ⟨T, μ, h.pop.push (.str _)⟩⟩
    · cases e
  · cases e
end
theorem cr_repr {X : Cx} {k : Nat} (gd : X.A.guards = some []) (hr : Room k X.A) : CallR X (.builtin "repr") (rRepr X.K) := by
  intro pins s σ H xs us Q I r h
  obtain ⟨x, d, rfl, hd, ok, q⟩ := h
  obtain ⟨u, rfl, ru⟩ := vals1 r
  unfold reprOk at ok
  simp only [Bool.and_eq_true, decide_eq_true_eq] at ok
  obtain ⟨o1, o2, o3, o4⟩ := ok
  have un := hr.units
  have nd : d.hasDict = false := by cases e : d.hasDict with
    | false => rfl
    | true => rw [e] at o2; cases o2
  obtain ⟨as, rd⟩ := Dq.reads I d x u hd ru
  have big : ∀ a, u = .ref a → wpAny (model X.prog X.w) X.A (call (.builtin "repr") [u]) (EP X pins σ Q) X.xe s := fun a ea => by
    subst ea
    exact repr_of_reads' rd o1 (fun e => by rw [nd] at e; cases e) gd (by have := hr.un; omega) (fun _ _ e => e) (fun h' u tk hk => ⟨.str _, H, I.kept hk, ⟨_, rfl⟩, q⟩) (by rw [lim_eq]; exact o4)
  cases hd with
  | non => cases ru; exact PySem.P.repr_of_none ⟨.str _, H, I.tok _, ⟨_, rfl⟩, q⟩
  | bl b => cases ru; exact PySem.P.repr_of_bool ⟨.str _, H, I.tok _, ⟨_, rfl⟩, q⟩
  | int i => obtain ⟨t, rfl⟩ := ru; exact PySem.P.repr_of_int (of_decide_eq_true o1) ⟨.str _, H, I.tok _, ⟨_, rfl⟩, q⟩
  | str y => obtain ⟨t, rfl⟩ := ru; exact PySem.P.repr_of_str ⟨.str _, H, I.tok _, ⟨_, rfl⟩, q⟩ (by rw [lim_eq]; exact o4)
  | lst _ _ => cases ru; exact big _ rfl
  | tup _ _ => cases ru; exact big _ rfl
  | dic0 _ => cases ru; exact big _ rfl
end Fe

/-! Fe16: what is not covered is stuck. -/
namespace Fe
open PySem PySem.Spec PyProof.Rows L2
def mStuck {α : Type} : Sx → Res α := fun _ => .stuck
def gStuck : AV → Sx → Res Unit := fun _ _ => .stuck
theorem fe_stuck {X : Cx} {W : WX} {e : Expr} : FE X W e mStuck := ⟨fun _ _ _ _ _ _ ⟨_, _, _, _, p⟩ => p.elim⟩
theorem ft_stuck {X : Cx} {W : WX} {e : Expr} : FT X W e mStuck := ⟨fun _ _ _ _ _ _ ⟨_, _, _, _, p⟩ => p.elim⟩
theorem fs_stuck {X : Cx} {W : WX} {e : Stmt} : FS X W e (fun _ => .stuck) := ⟨fun _ _ _ _ _ _ ⟨_, _, _, _, _, p⟩ => p.elim⟩
theorem fg_stuck {X : Cx} {W : WX} {vs : List Nat} {e : Expr} : FG X W vs e gStuck := ⟨fun _ _ _ _ _ _ _ _ _ ⟨_, _, _, _, _, _, p⟩ => p.elim⟩
theorem takesWF {X : Cx} : Takes X WF := fun u s' ⟨_, _, _, _, _, _, _, _, _, _, _, _, _, _, _, _, w⟩ => w.elim
theorem _root_.L2.Room.u1 {k : Nat} {A : Around} (r : Room k A) : A.units + 1 < cLine := by have := r.un; omega
theorem _root_.L2.Room.u65 {k : Nat} {A : Around} (r : Room k A) : A.units + 65 < cLine := by have := r.un; omega
def mAsg (f : Sx → Res AV) (g : AV → Sx → Res Unit) : Sx → Res Fl := fun s => (f s).bind fun av s1 => match av with | .pk _ => .stuck | av => (g av s1).bind fun _ s2 => .ok .next s2
/-- texts compared, whatever they hold -/
def gEqS (neg : Bool) : AV → AV → Sx → Option (AV × Sx) := fun a b s => match a, b with
  | .dat (.str x), .dat (.str y) => some (.dat (.bool (if neg = true then !decide (x = y) else decide (x = y))), s)
  | _, _ => none
theorem v2_eqS {G : Kx} : V2 G rEq (gEqS false) := fun fx stk s σ H x a y b h c s' e Q q => by
  unfold gEqS at e
  split at e
  · rename_i u w
    cases e
    have hy : y = .str w := h.strV
    have hx : x = .str u := h.pop.strV
    subst hx hy
    refine ⟨rfl, ?_⟩
    have e2 : decide (V.str u = V.str w) = decide (u = w) := by
      rw [Bool.eq_iff_iff]; simp
    rw [e2]
    exact q _ _ (h.pop.pop.scal fun _ => .bl _)
  · cases e
theorem v2_neS {G : Kx} : V2 G rNe (gEqS true) := fun fx stk s σ H x a y b h c s' e Q q => by
  unfold gEqS at e
  split at e
  · rename_i u w
    cases e
    have hy : y = .str w := h.strV
    have hx : x = .str u := h.pop.strV
    subst hx hy
    refine ⟨rfl, ?_⟩
    have e2 : decide (V.str u = V.str w) = decide (u = w) := by
      rw [Bool.eq_iff_iff]; simp
    rw [e2]
    exact q _ _ (h.pop.pop.scal fun _ => .bl _)
  · cases e
def gEqA : AV → AV → Sx → Option (AV × Sx) := orG (gEqS false) gEq
def gNeA : AV → AV → Sx → Option (AV × Sx) := orG (gEqS true) gNe
theorem v2_eqA {G : Kx} : V2 G (fun x y H Q => rEq x y H Q ∨ rEqQ G.K x y H Q) gEqA := v2_eqS.or v2_eq
theorem v2_neA {G : Kx} : V2 G (fun x y H Q => rNe x y H Q ∨ rNeQ G.K x y H Q) gNeA := v2_neS.or v2_ne
theorem op_eqA {X : Cx} (hu : X.A.units + 64 < cLine) : OpR X (compareOp .Eq) (fun x y H Q => rEq x y H Q ∨ rEqQ X.K x y H Q) := op_eq.or (op_eqQ hu)
theorem op_neA {X : Cx} (hu : X.A.units + 64 < cLine) : OpR X (compareOp .NotEq) (fun x y H Q => rNe x y H Q ∨ rNeQ X.K x y H Q) := op_ne.or (op_neQ hu)
end Fe

/-! Fe17: a law's end. -/
namespace Fe
open PySem PySem.Spec PyProof.Rows L2
theorem scr_rel {G : Kx} {H : Hp} {a : Addr} {ns : List Int} (hS : SqL G.K H a (ns.map V.int)) : Rel G ⟨fun _ => none, fun _ => none, 0, fun _ => 0⟩ [(.ref a, .scr ns)] ⟨[], []⟩ [] H := by
  have e : dh (fun _ => Tag.data) H = H := funext fun b => if_pos rfl
  exact ⟨fun _ => .data, fun _ => 0, ⟨⟨⟨a, rfl, by rw [e]; exact hS⟩, True.intro⟩, rfl, fun i av z => by simp at z, fun l so z => by simp at z, fun b o z => (nomatch z), fun b o z => (nomatch z), Nat.le_refl _, fun l z => absurd z (Nat.not_lt_zero _)⟩⟩
theorem scr_sp {G : Kx} {H : Hp} {a : Addr} {ns : List Int} {F : Mir} {s' : Sx} (hF : F [.scr ns] [] = .ok (.dat (.bool true)) s') (hS : SqL G.K H a (ns.map V.int)) : SpF G 1 F [.ref a] H (fun v _ => v = .bl true) fun _ _ _ => False := by
  refine ⟨_, [(.ref a, .scr ns)], [], rfl, rfl, rfl, scr_rel hS, ?_⟩
  show Post (F [.scr ns] []) _ _
  rw [hF]
  exact fun v H' _ h => h.bl
theorem refEq {m : Str → Option Value} {x : Str} {a b : Addr} (h : m x = some (.ref a)) (k : m x = some (.ref b)) : a = b := Value.ref.inj (Option.some.inj (h.symm.trans k))
/-- the law's function called at the heap behind the top, where no repr is under way -/
theorem lawG {P : Program} {w : World} {K : PySem.W.Frag} {mg mb : Str → Option Value} {k : Nat} {fa a : Addr} {fd : FuncData} {x : Str} {z₁ : Shared} {vs : List Value} {ns : List Int} {Fm : Mir}
    (kin : K.In z₁.heap) (gns : z₁.heap.Ns mainGlobals mg) (bns : z₁.heap.Ns builtinsNs mb) (bb : ∀ x : Str, x ≠ "__name__" → mb x = bootBuiltins x) (nolim : z₁.heap.NoLimit) (gens : z₁.gens = #[])
    (hat : z₁.heap.get? a = some { cls := .type "list", data := .seq vs.toArray }) (ins : IntsAre vs ns) (few : ns.length ≤ sizeLine) (room : Room k callerA)
    (FG : ∀ base : Heap, K.In base → base.Ns mainGlobals mg → FnG P w K mg base k fa fd [x] (SpF ⟨K, mg⟩ 1 Fm)) (bind1 : ∀ (z : Shared) (u : Value), BindsTo z fd ⟨[u], []⟩ [(x, u)])
    (plain : ∃ s', Fm [.scr ns] [] = .ok (.dat (.bool true)) s') :
    codeAny (model P w) callerA (.call (.ref fa) ⟨[.ref a], []⟩) (fun r z' => r = .ok (.ret (.bool true)) ∧ OldK z₁.heap z'.heap ∧ z'.os = z₁.os ∧ AllBare z'.gens) z₁ := by
  obtain ⟨s', plain⟩ := plain
  have vints := vals_ints ins
  have vlen := ins.length
  have main : ∀ H : Hp, Only H → SqL K H a (ns.map V.int) → HOk P w H z₁.heap → (∀ b, H b ≠ none → b = a) → (H a ≠ none → K.lookup a = none) →
      codeAny (model P w) callerA (.call (.ref fa) ⟨[.ref a], []⟩) (fun r z' => r = .ok (.ret (.bool true)) ∧ OldK z₁.heap z'.heap ∧ z'.os = z₁.os ∧ AllBare z'.gens) z₁ := by
    intro H only sq hok onlyA hK
    have untold : ∀ {b : Addr} {o : Obj}, z₁.heap.get? b = some o → (H b ≠ none → False) → (L2.hidT z₁.heap H).get? b = some o := fun {b o} e n => hidT_get e (by
      cases q : H b with
      | none => rfl
      | some u => exact (n (by rw [q]; exact fun y => nomatch y)).elim)
    have notDict : ∀ {b : Addr} {o : Obj} {es : Array DictEntry} {ep : Nat}, z₁.heap.get? b = some o → o.data = .dict es ep → H b ≠ none → False := fun {b o es ep} e d n => by
      have eb := onlyA b n
      subst eb
      rw [hat] at e
      cases e
      exact nomatch (d : Data.seq vs.toArray _ = Data.dict es ep)
    have nsH : ∀ {b : Addr} {m : Str → Option Value}, z₁.heap.Ns b m → (L2.hidT z₁.heap H).Ns b m := fun {b m} ⟨o, es, ep, e, d, r⟩ => ⟨o, es, ep, untold e (notDict e d), d, r⟩
    have kinH : K.In (L2.hidT z₁.heap H) := fun b o e => untold (kin b o e) fun n => by
      have eb := onlyA b n
      subst eb
      rw [hK n] at e
      cases e
    have md : L2.Mod K mg (L2.hidT z₁.heap H) := ⟨kinH, nsH gns, ⟨mb, nsH bns, bb⟩, let ⟨mc, h1, h2⟩ := nolim; ⟨mc, nsH h1, h2⟩⟩
    have env0 : Env0 P w K mg (L2.hidT z₁.heap H) callerA [] z₁ H := ⟨rfl, md, fun b o e => of_hidT e, Nat.le_of_eq (hidT_size _ _), trivial, fun b hb => (nomatch (hb : b ∈ ([] : List Addr))), hok, .of_eq gens⟩
    refine codeAny_mono ((FG _ kinH (nsH gns)).run callerA [] z₁ H ⟨[.ref a], []⟩ [.ref a] [.ref a] _ _ rfl room env0 (bind1 z₁ (.ref a)) (.cons rfl .nil) (scr_sp plain sq)) fun rs z' h => ?_
    cases rs with
    | error e => exact let ⟨_, _, _, _, _, _, _, _, _, _, _, _, f⟩ := h; f.elim
    | ok fl => cases fl with
      | ret u =>
        obtain ⟨v, H', os, bare, un, hok', rv, q⟩ := h
        have q' : v = .bl true := q
        subst q'
        have eu : u = Value.bool true := rv
        subst eu
        refine ⟨rfl, OldK.of_keep fun b o e => ?_, os, bare⟩
        rcases only b with y | ⟨ob, xs, y⟩
        · exact un.keep b o e y (fun m => nomatch (m : b ∈ ([] : List Addr))) (fun m => nomatch m)
        · obtain ⟨e1, _⟩ := hok b _ y
          obtain ⟨e2, _⟩ := hok' b _ (un.frzs b ob _ y)
          rw [e] at e1
          cases e1
          exact e2
      | _ => exact h.elim
  cases hk : K.lookup a with
  | some o =>
    have e := kin a o hk
    rw [hat] at e
    cases e
    exact main (fun _ => none) (fun _ => .inl rfl) (.inr ⟨_, vs.toArray, _, hk, rfl, rfl, rfl, by rw [List.size_toArray, vlen]; exact few, by simpa using vints⟩) (fun b u y => nomatch (y : (none : Option HO) = some u)) (fun b y => (y rfl).elim) fun y => (y rfl).elim
  | none =>
    have at_a : (fun b => if b = a then some (HO.frz { cls := .type "list", data := .seq vs.toArray } (.lst (ns.map V.int))) else none) a = some (HO.frz { cls := .type "list", data := .seq vs.toArray } (.lst (ns.map V.int))) := if_pos rfl
    refine main (fun b => if b = a then some (.frz { cls := .type "list", data := .seq vs.toArray } (.lst (ns.map V.int))) else none) (fun b => ?_) (.inl (.inr ⟨{ cls := .type "list", data := .seq vs.toArray }, at_a⟩)) (fun b u y => ?_) (fun b y => ?_) fun _ => hk
    · by_cases hb : b = a
      · exact .inr ⟨_, _, if_pos hb⟩
      · exact .inl (if_neg hb)
    · by_cases hb : b = a
      · subst hb
        have y' := at_a.symm.trans y
        cases y'
        exact ⟨hat, by rw [List.length_map]; exact few, vs, _, vints, hat⟩
      · exact nomatch ((if_neg hb).symm.trans y : (none : Option HO) = some u)
    · exact Decidable.byContradiction fun hb => y (if_neg hb)
theorem walk_ofG {l : PySem.W.OpenLaw} {n k : Nat} {q : Program} {loose : List Str} {XP : (Str → Option Value) → Heap → Prop} {YP : World → Heap → Prop} {d : DefRec} {x : Str} {Fm : Mir}
    (hn : l.most = some n) (hn2 : n ≤ sizeLine) (hdf : d.params.defaults = []) (room : Room k callerA)
    (FG : ∀ (w : World) (mg : Str → Option Value) (fa : Addr) (h : Heap), YP w h → h.Ns mainGlobals mg → mg d.name = some (.ref fa) →
      ∃ (K : PySem.W.Frag) (fd : FuncData), K.In h ∧ (∀ (z : Shared) (u : Value), BindsTo z fd ⟨[u], []⟩ [(x, u)]) ∧ ∀ base : Heap, K.In base → base.Ns mainGlobals mg → FnG l.prog w K mg base k fa fd [x] (SpF ⟨K, mg⟩ 1 Fm))
    (plain : ∀ ns : List Int, ns.length ≤ n → (∀ z ∈ ns, Builtin.Int.intBits z ≤ 1048576) → ∃ s', Fm [.scr ns] [] = .ok (.dat (.bool true)) s') :
    PySem.W.WalkO q loose XP YP l.row.toRowW d [] (fun f vs => PySem.call f vs) := by
  refine Att.attach_callB hn hdf fun w s₀ s₁ mg mb fa o pm cd doc a vs ns gr Y _ _ _ hmg hat ins hlen bits gens => ?_
  obtain ⟨K, fd, kin, hb, hF⟩ := FG w mg fa _ Y gr.T.g hmg
  exact lawG kin gr.T.g gr.T.b gr.T.builtins gr.T.nolimit gens hat ins (Nat.le_trans hlen hn2) room hF hb (plain ns hlen bits)
end Fe

/-! Fe18: an own exception over ValueError whose __init__ says super().__init__(p); self.f = p. -/
namespace Fe
open PySem PySem.Spec PyProof.Rows L2
/-- ValueError.__init__ bound to an exception, called -/
theorem call_vb {prog : Program} {w : World} {A : Around} {E : Value → Shared → Prop} {h : Heap} {g : Array GenState} {d : Drawn} {t : Nat} {os : OsState} {nm qn : Str} {C N : Addr} {bs bm : List Value} {hdct : Bool} {sn : List Str} {sub : List Value} {ab : Bool} {col : Option Bool} {dd : Option Addr} {k0 k1 k2 k3 k5 : Option Value}
    {u e t0 : Addr} {rest : List Value} {Q : Value → Shared → Prop}
    (hC : h.get? C = some (excClassObj nm qn C N bs bm hdct sn sub ab col dd k0 k1 k2 k3 k5 "ValueError.__new__")) (he : h.get? e = some (PySem.HandSPX.excO C t0)) (hu : h.get? u = some (PySem.W.kxs_mw "ValueError.__init__" e)) (few : rest.length ≤ sizeLine)
    (hq : ∀ h' t1, (∀ b o, b ≠ e → h.get? b = some o → h'.get? b = some o) → h'.get? e = some (PySem.HandSPX.excO C t1) → Q .none ⟨h', g, d, t, os⟩) :
    wpAny (model prog w) A (call (.ref u) rest) Q E ⟨h, g, d, t, os⟩ := by
  refine wpAny_call (codeAny_of_tree ?_)
  show wpAny _ A.in1 (callAny (.ref u) ⟨rest, []⟩) _ _ _
  simp only [callAny]
  refine wpAny_bind (wpAny_load hu ?_)
  simp only [PySem.W.kxs_mw, show (Value.type "method-wrapper" == Value.type "method" || Value.type "method-wrapper" == Value.type "builtin_function_or_method" || Value.type "method-wrapper" == Value.type "method-wrapper") = true by decide, if_true]
  refine PySem.W.KFB.if_so (by decide) ?_
  refine wpAny_bind (PySem.W.check_bound_init PySem.F.excBase_ValueError.toExcCallFacts hC he rfl ?_)
  refine wpAny_bind (wpAny_pure (wpAny_pure ?_))
  refine ⟨plainId_quiet PySem.F.excBase_ValueError.init.plain _, codeAny_builtin PySem.F.excBase_ValueError.initEntry ?_⟩
  exact PySem.W.exc_init_tree (cls := .ref C) (t0 := t0) (dv := none) (c2 := .none) (c3 := .none) (b4 := .bool false) he few fun h' k e1 _ => hq h' _ k e1
/-- what it does -/
def spI (C : Addr) (f : Str) : Sp := fun vs H Q E => ∃ (a : Addr) (v : V), vs = [.ref a, v] ∧ H a = some (exo a C none) ∧ ∀ dx, H dx = none → dx ≠ a → Q .non (upd (upd H dx (exd dx [(f, v)])) a (exo a C (some dx)))
abbrev supBody (p f : Str) (q0 q1 q2 q3 q4 q5 q6 q7 q8 q9 : Pos) : List Stmt :=
  [.Expr (.Call (.Attribute (.Call (.Name "super" q0) [] [] q1) "__init__" q2) [.Name p q3] [] q4) q5, .Assign [.Attribute (.Name "self" q6) f q7] (.Name p q8) q9]
def scI (p : Str) : Scope := ⟨.function, [("self", .local), (p, .local)], false, false, []⟩
/-- the value of a local name -/
theorem inv_local {X : Cx} {pins : List (Addr × Obj)} {σ : L2.St} {H : Hp} {s : Shared} (I : L2.Inv X pins σ H s) {i : Nat} {x : Str} {v : V} (hN : X.N[i]? = some x) (hv : σ[i]? = some (some v)) (hl : X.env.scope.names.lookup x = some .local) : ∃ m u, s.heap.Ns X.env.locals m ∧ m x = some u ∧ RelV v u := by
  obtain ⟨m, hn, hm⟩ := I.loc
  obtain ⟨u, r, l⟩ := hm i x v hN hv (.inl hl)
  rcases l with ⟨_, l⟩ | ⟨k, _⟩
  · exact ⟨m, u, hn, l, r⟩
  · have k' : X.env.scope.names.lookup x = some .cell ∨ X.env.scope.names.lookup x = some .free := k
    rcases k' with k' | k' <;> (rw [hl] at k'; cases k')
theorem init_ok {P : Program} {w : World} {K : PySem.W.Frag} {mg : Str → Option Value} {base : Heap} {fI C cc cda : Addr} {qual p f : Str} {params : Arguments} {scope : Scope} {doc pm ct oc ccl cl : Value} {an od cdd cld : Option Addr} {osl ccs csl : Array (Option Value)} {ar : Arg} {vs : Array Value} {tf : Tok} {q0 q1 q2 q3 q4 q5 q6 q7 q8 q9 : Pos}
    (lk : K.lookup fI = some ⟨oc, od, .func (PySem.W.ksFn "__init__" qual params (supBody p f q0 q1 q2 q3 q4 q5 q6 q7 q8 q9) scope .none .none doc pm an (.ref cda) ct cc), osl⟩)
    (hcd : PySem.W.codeIn K (.ref cda) qual = true) (hh : (params.posonlyargs ++ params.args).head? = some ar) (har : ar.arg = "self") (lcd : K.lookup cda = some ⟨ccl, cdd, .fields vs, ccs⟩) (hvs : vs[2]? = some (.str P.main.file tf)) (lcc : K.lookup cc = some ⟨cl, cld, .cell (some (.ref C)), csl⟩)
    (hp : p ≠ "self") (k1 : scope.names.lookup ("self" : Str) = some .local) (k2 : scope.names.lookup p = some .local) (k3 : scope.names.lookup ("super" : Str) = some .globalImplicit) (k4 : scope.names.lookup ("__class__" : Str) = some .free)
    (k5 : ∀ y ∈ scope.names, y.2 ≠ .cell) (k6 : scope.isCoroutine = false) (k7 : scope.isGenerator = false) (k8 : scope.kind = .function) (hpd : (p == ("__debug__" : Str)) = false)
    (T : OexC K C) (hno : PySem.W.findIn K (.ref C) f = some none) (hsup : PySem.W.ks_superIn K C C "__init__" = some (some (.builtin "ValueError.__init__"))) (hVE : PySem.W.subIn K (.ref C) (.type "ValueError") = some true) (hsub : PySem.W.mroIn K C (.ref C) = some true) (hop : PySem.W.nsIn K cStatics "thirdparty.any" = some none)
    {pl : Sem Bool} (he : ∀ L, eval (.Call (.Attribute (.Call (.Name "super" q0) [] [] q1) "__init__" q2) [.Name p q3] [] q4) (callEnv (PySem.W.ksFn "__init__" qual params (supBody p f q0 q1 q2 q3 q4 q5 q6 q7 q8 q9) scope .none .none doc pm an (.ref cda) ct cc) L fI) = (do
      let ov ← attributeBase (.Call (.Name "super" q0) [] [] q1) "__init__" (callEnv (PySem.W.ksFn "__init__" qual params (supBody p f q0 q1 q2 q3 q4 q5 q6 q7 q8 q9) scope .none .none doc pm an (.ref cda) ct cc) L fI) (eval (.Call (.Name "super" q0) [] [] q1) (callEnv (PySem.W.ksFn "__init__" qual params (supBody p f q0 q1 q2 q3 q4 q5 q6 q7 q8 q9) scope .none .none doc pm an (.ref cda) ct cc) L fI))
      standAt q2.atName
      let (fn, first) ← holding [ov] (getMethod ov "__init__" pl)
      callWith q4 fn first (backTo q4 (starEach [.Name p q3] (callEnv (PySem.W.ksFn "__init__" qual params (supBody p f q0 q1 q2 q3 q4 q5 q6 q7 q8 q9) scope .none .none doc pm an (.ref cda) ct cc) L fI))) []))
    (k9 : ∀ L, interactive (callEnv (PySem.W.ksFn "__init__" qual params (supBody p f q0 q1 q2 q3 q4 q5 q6 q7 q8 q9) scope .none .none doc pm an (.ref cda) ct cc) L fI) = false)
    (hm : mg "super" = none) (htop : (P.main.scope.names.lookup ("super" : Str)).isSome = false) :
    FnOk P w K mg base (L2.CX P w) 1 fI (PySem.W.ksFn "__init__" qual params (supBody p f q0 q1 q2 q3 q4 q5 q6 q7 q8 q9) scope .none .none doc pm an (.ref cda) ct cc) ["self", p] (spI C f) := by
  refine ⟨fun vs H Q E ⟨a, v, e, _⟩ => by rw [e]; rfl, fun A outer z H args us ws Q E hr e0 bnd rel hsp => ?_⟩
  obtain ⟨a, v, rfl, ha, q⟩ := hsp
  obtain ⟨u0, u, rfl, r0, ru⟩ := rel.two
  obtain rfl : u0 = Value.ref a := r0
  have kin : K.In z.heap := e0.mod.kin.keeps fun b o e => (e0.bs b o e).1
  have nolim : z.heap.NoLimit := e0.mod.nolimit.keeps fun b o e => (e0.bs b o e).1
  obtain ⟨nm, qn, N, bs, bm, sn, sub, ab, col, dd, x0, x1, x2, x3, x5, hC, hbm⟩ := T.cls
  refine PySem.ks_codeAny_call_defAt (fd := PySem.W.ksFn "__init__" qual params (supBody p f q0 q1 q2 q3 q4 q5 q6 q7 q8 q9) scope .none .none doc pm an (.ref cda) ct cc) (binds := [("self", .ref a), (p, u)]) hr.depth (kin _ _ lk) rfl nolim (PySem.W.codeRec_of kin hcd) rfl bnd k5 (fun y hy => ?_) (fun h₁ hns hk₁ => ?_) k6 k7 k8
  · rcases List.mem_cons.mp hy with e | hy
    · rw [e]; exact k1
    · rcases List.mem_cons.mp hy with e | hy
      · rw [e]; exact k2
      · cases hy
  -- the frame as a body of two locals
  have l1 : (scI p).names.lookup ("self" : Str) = some .local := rfl
  have l2 : (scI p).names.lookup p = some .local := by
    show List.lookup p [(("self" : Str), NameKind.local), (p, NameKind.local)] = _
    have e : (p == ("self" : Str)) = false := by simp [hp]
    rw [List.lookup_cons, e, List.lookup_cons_self]
  have par : ∀ y ∈ (["self", p] : List Str), (scI p).names.lookup y = some .local ∨ (scI p).names.lookup y = some .cell := fun y hy => by
    rcases List.mem_cons.mp hy with e | hy
    · rw [e]; exact .inl l1
    · rcases List.mem_cons.mp hy with e | hy
      · rw [e]; exact .inl l2
      · cases hy
  have nofree : ∀ y ∈ (scI p).names, y.2 ≠ .free := fun y hy => by
    rcases List.mem_cons.mp hy with e | hy
    · rw [e]; exact fun z => nomatch z
    · rcases List.mem_cons.mp hy with e | hy
      · rw [e]; exact fun z => nomatch z
      · cases hy
  have S : FnScope ["self", p] ["self", p] (scI p) := ⟨rfl, rfl, rfl, by simp [Ne.symm hp], rfl, par, nofree⟩
  have I0 := inv_start (CX := L2.CX P w) (E := E) (s1 := { z with heap := h₁, toks := z.toks + 2 }) (qual := qual) (f := fI) (cd := .ref cda) S hr.hd e0 (vs := [.ref a, v]) (us := [.ref a, u]) rfl (.cons rfl (.cons ru .nil)) ⟨⟨⟨h₁, _, rfl⟩, by
      have e : bindL (envOfC qual (scI p) z.heap.objs.size fI (.ref cda)).kindOf ((["self", p] : List Str).zip [Value.ref a, u]) (fun _ => none) = fun x => List.lookup x ([("self", Value.ref a), (p, u)] : List (Str × Value)).reverse := by
        funext y
        have e1 : (envOfC qual (scI p) z.heap.objs.size fI (.ref cda)).kindOf "self" = some .local := l1
        have e2 : (envOfC qual (scI p) z.heap.objs.size fI (.ref cda)).kindOf p = some .local := l2
        show bindL _ [("self", Value.ref a), (p, u)] (fun _ => none) y = List.lookup y [(p, u), ("self", Value.ref a)]
        simp only [bindL, e1, e2, if_true, List.lookup_cons, List.lookup_nil]
        by_cases hy : y = p
        · simp [hy]
        · have : (y == p) = false := by simp [hy]
          rw [if_neg hy, this]
          by_cases hy2 : y = "self"
          · simp [hy2]
          · have : (y == ("self" : Str)) = false := by simp [hy2]
            rw [if_neg hy2, this]
      rw [e]; exact hns, hk₁, Nat.le_refl _⟩, fun n c e => (nomatch (e : (cellsFrom _ (scI p).names []).lookup n = some c)), List.Pairwise.nil, fun n c e => (nomatch e)⟩
  have hs1 : ∀ b o, z.heap.get? b = some o → h₁.get? b = some o := hk₁
  generalize hz1 : ({ z with heap := h₁, toks := z.toks + 2 } : Shared) = z1 at I0
  have kin1 : K.In z1.heap := I0.kIn
  obtain ⟨m, us, hnL, hms, rs⟩ := inv_local I0 (i := 0) (x := "self") (v := .ref a) rfl rfl l1
  obtain rfl : us = Value.ref a := rs
  obtain ⟨t1, hoe⟩ := exo_at I0.hok ha
  have hcl : PySem.W.clsIn K C = some { name := nm, bases := bs, mro := .ref C :: bm, ns := N, qualname := qn, hasDict := true, slotNames := sn, subclasses := sub, abstract := ab, collection := col, hasDel := false } := by unfold PySem.W.clsIn; rw [hC] <;> rfl
  obtain ⟨mb, hbl, hbb⟩ := e0.mod.blt
  have up : ∀ b o, base.get? b = some o → z1.heap.get? b = some o := I0.bk
  have inst : PySem.W.InstAt z1.heap a (PySem.HandSPX.excO C t1) C none := ⟨hoe, rfl, rfl, trivial⟩
  refine ks_wpAt_execs_cons (ks_wpAt_Expr_any (ks_wpAt_MethodCall (ks_wpAt_super_base (f := fI) (cc := cda) (ar := ar) k3 k4 (by decide) rfl (kin1 _ _ lk) rfl hh rfl (kin1 _ _ lcd) rfl hvs (by simp) htop ?_) (he _)) (hi := k9 _))
  refine PySem.W.ks_loadName_global k8 k3 (Calls.loadGlobal_builtin (e0.mod.glob.keeps up) hm (hbl.keeps up) (hbb "super" (by decide)) ⟨by first | rfl | decide +kernel, ?_⟩)
  refine wpAny_loadName_free k8 k4 rfl ⟨_, kin1 _ _ lcc, rfl⟩ ?_
  rw [har]
  refine wpAny_loadName_local k8 k1 hnL hms ?_
  obtain ⟨hh1, g1, d1, tk1, os1⟩ := z1
  refine ks_wpAny_isType_cls (kin1 _ _ hC) rfl ⟨rfl, ?_⟩
  refine ks_wpAny_call_super (kin1 _ _ hC) rfl hoe rfl (fun c e => nomatch e) (PySem.W.looks_mroIn kin1 hsub) (fun h2 hso kk => ?_)
  have I2 : L2.Inv _ [] _ H ⟨h2, g1, d1, tk1, os1⟩ := I0.kept (h' := h2) (t' := tk1) kk
  have hoe2 : h2.get? a = some (PySem.HandSPX.excO C t1) := kk _ _ hoe
  have kin2 : K.In h2 := I2.kIn
  refine PySem.W.kxs_getMethod PySem.W.kxs_ValueError hso (PySem.W.looks_opaque kin2 hop) (l₀ := .ref C :: bm) (fun A Q E s k q => wpAny_bind ((PySem.W.looks_clsIn kin2 hcl) A _ E s k (wpAny_pure q))) rfl kin2 (by unfold PySem.W.ks_superIn at hsup; rw [hcl] at hsup; exact hsup) ((show PySem.W.InstAt h2 a (PySem.HandSPX.excO C t1) C none from ⟨hoe2, rfl, rfl, trivial⟩).type.andThen (PySem.W.looks_subIn kin2 hVE)) ?_ (by decide) ?_
  · intro e
    subst e
    have z1 := kin2 _ _ hC
    rw [hoe2] at z1
    cases z1
  -- the bound wrapper
  have kk3 : ∀ b o, h2.get? b = some o → (h2.push (PySem.W.kxs_mw "ValueError.__init__" a)).get? b = some o := fun b o e => Heap.get?_push_of_some _ e
  have hu3 : (h2.push (PySem.W.kxs_mw "ValueError.__init__" a)).get? h2.objs.size = some (PySem.W.kxs_mw "ValueError.__init__" a) := Heap.get?_push_at rfl rfl
  have I3 : L2.Inv _ [] _ H ⟨h2.push (PySem.W.kxs_mw "ValueError.__init__" a), g1, d1, tk1 + 1, os1⟩ := I2.kept (h' := h2.push (PySem.W.kxs_mw "ValueError.__init__" a)) (t' := tk1 + 1) kk3
  have hs3 : starEach [.Name p q3] (callEnv (PySem.W.ksFn "__init__" qual params (supBody p f q0 q1 q2 q3 q4 q5 q6 q7 q8 q9) scope .none .none doc pm an (.ref cda) ct cc) z.heap.objs.size fI) = (false, eval (.Name p q3) (callEnv (PySem.W.ksFn "__init__" qual params (supBody p f q0 q1 q2 q3 q4 q5 q6 q7 q8 q9) scope .none .none doc pm an (.ref cda) ct cc) z.heap.objs.size fI)) :: starEach [] (callEnv (PySem.W.ksFn "__init__" qual params (supBody p f q0 q1 q2 q3 q4 q5 q6 q7 q8 q9) scope .none .none doc pm an (.ref cda) ct cc) z.heap.objs.size fI) := rfl
  show wpAny _ _ (callWith q4 (.ref h2.objs.size) [] (backTo q4 (starEach [.Name p q3] _)) []) _ _ _
  rw [hs3]
  refine PySem.W.kxs_callWith (i := "ValueError.__init__") (x := a) rfl (Calls.evalArgs_plain ?_)
  obtain ⟨m3, u3, hn3, hm3, r3⟩ := inv_local I3 (i := 1) (x := p) (v := v) rfl rfl l2
  refine Calls.spliced_cons (wpAny_Name (wpAny_loadName_local k8 k2 hn3 hm3 (Calls.spliced_nil ⟨hu3, ?_⟩)) hpd)
  refine call_vb (I3.kIn _ _ hC) (kk3 _ _ hoe2) hu3 (by show 1 ≤ sizeLine; decide) (fun h4 t4 k4' he4 => ?_)
  have I4 := I3.write (h' := h4) (t' := tk1 + 1) (x := a) (e := a) (o := exo a C none) (by rw [ha]; exact True.intro) (.inl rfl) k4' ⟨_, he4⟩ (exo_ok he4)
  have eH : upd H a (exo a C none) = H := by
    funext b
    by_cases hb : b = a
    · rw [hb, upd_same, ha]
    · rw [upd_ne hb]
  rw [eH] at I4
  obtain ⟨m4, u4, hn4, hm4, r4⟩ := inv_local I4 (i := 1) (x := p) (v := v) rfl rfl l2
  obtain ⟨m5, u5, hn5, hm5, r5⟩ := inv_local I4 (i := 0) (x := "self") (v := .ref a) rfl rfl l1
  obtain rfl : u5 = Value.ref a := r5
  refine ks_wpAt_execs_cons (ks_wpAt_Assign_Attr (wpAt_of_wpAny (wpAny_Name (wpAny_loadName_local k8 k2 hn4 hm4 (wpAny_Name (wpAny_loadName_local k8 k1 hn5 hm5 ?_))) hpd)))
  refine ost_new T I4 ha hno r4 fun dx z5 hdx hne J => ?_
  refine wpAt_of_wpAny (wpAny_pure ?_)
  exact ⟨.non, _, J.os, J.bare, J.base, J.hok, rfl, q dx hdx hne⟩
end Fe

/-! Fe19: raise, try .. except .. as, the suite. -/
namespace PySem.W
open PySem PySem.Spec PySem.Calls PyProof.Rows
section
variable {prog : Program} {w : World} {A : Around} {E : Value → Shared → Prop} {s : Shared} {K : Frag} {x D : Addr} {ox : Obj} {oD : Option Obj}
theorem findObj_dataS {C : Addr} {od : Option Obj} {name : Str} {a g : Value} (hc : (clsIn K C).isSome = true) (ha : findIn K (.ref C) name = some (some a)) (hg : specialIn K a "__get__" = some (some g)) (ht : takesIn K a = some true) : findObj K C od name = some (.bind g a) := by
  obtain ⟨cd, hc⟩ := Option.isSome_iff_exists.mp hc
  unfold findObj
  rw [hc, Option.bind_some, ha, Option.bind_some]
  simp [hg, ht]
theorem kin_clsD {Q : Option Value → Shared → Prop} (ca1 : findIn K (.ref D) "__getattribute__" = some (some (.builtin "BaseException.__getattribute__"))) (ca2 : findIn K (.ref D) "__getattr__" = some none) (ca3 : subIn K (.ref D) (.type "BaseException") = some true)
    (ca4 : hasDictIn K D = true) (ca5 : findIn K (.ref D) "__class__" = some (some (.builtin "object.__class__")))
    (ca6 : specialIn K (.builtin "object.__class__") "__get__" = some (some (.builtin "getset_descriptor.__get__"))) (ca7 : takesIn K (.builtin "object.__class__") = some true) (ca8 : mroIn K D (.type "object") = some true)
    (X : K.In s.heap) (I : InstAt s.heap x ox D oD) (h : Q (some (.ref D)) { s with toks := s.toks + 1 }) : wpAny (model prog w) A (getAttr? (.ref x) "__class__") Q E s := by
  have hf : findObj K D oD "__class__" = some (.bind (.builtin "getset_descriptor.__get__") (.builtin "object.__class__")) := findObj_dataS (by obtain ⟨cd, hc, _⟩ := any_some ca4; rw [hc]; rfl) ca5 ca6 ca7
  obtain ⟨hp, g, d, t, os⟩ := s
  have T0 := I.type (M := model prog w)
  have T1' := looks_findIn (M := model prog w) X ca1
  have T2' := looks_findIn (M := model prog w) X ca2
  have T3' := looks_find (M := model prog w) X I hf
  have sub : Looks (model prog w) hp (isInstance (.ref x) (.type "BaseException")) true := T0.andThen (looks_subIn X ca3)
  have nh0 : (false && onTheHeap (Value.builtin "BaseException.__getattribute__")) = false := rfl
  have nh2 : (Value.builtin "BaseException.__getattribute__" == Value.builtin "object.__getattribute__") = false := by decide +kernel
  have nh1 : (onTheHeap (Value.ref D) && Value.builtin "BaseException.__getattribute__" == Value.builtin "object.__getattribute__") = false := by rw [nh2]; rfl
  unfold getAttr? getAttrBy? getAttrBy
  refine wpAny_bind (wpAny_mkText (wpAny_bind (wpAny_attempt (wpAny_holding (wpAny_bind (T0.at (wpAny_bind (T1'.at ?_))))))))
  show wpAny _ _ (if (onTheHeap (Value.ref D) && Value.builtin "BaseException.__getattribute__" == Value.builtin "object.__getattribute__") = true then _ else _) _ _ _
  rw [nh1, if_neg Bool.false_ne_true]
  unfold getAttrByItsOwn hookBefore
  refine wpAny_bind ?_
  rw [if_pos (show onTheHeap (Value.ref D) = true from rfl)]
  refine T2'.at ?_
  refine wpAny_bind (wpAny_attempt (wpAny_holding ?_))
  unfold callGetattribute
  rw [nh0, if_neg Bool.false_ne_true]
  unfold boundAndCalled
  rw [PySem.F.excAttr_ValueError.ga.bind (.ref x)]
  refine wpAny_bind (wpAny_pure ?_)
  show wpAny _ _ (call (.builtin "BaseException.__getattribute__") [.ref x, .str "__class__" t]) _ _ _
  refine wpAny_call (codeAny_call_builtin PySem.F.excAttr_ValueError.ga.plain PySem.F.entry_bexc_ga ?_)
  refine @check_slot (model prog w) _ _ ⟨hp, g, d, t + 1, os⟩ "BaseException.__getattribute__" "BaseException" "__getattribute__" (.ref x) [.str "__class__" t] [] _ (by decide +kernel) (by decide +kernel) sub (PySem.F.args_bexc_ga (.ref x) (.str "__class__" t)) ?_
  unfold Builtin.«object.__getattribute__»
  refine wpAny_bind (wpAny_of_eq (a := ((Value.ref x : Value), [Value.str "__class__" t])) (by first | rfl | (simp only [slotArgs]; rfl)) ?_)
  refine wpAny_bind (wpAny_pure (wpAny_bind (T0.at (wpAny_bind (T3'.at ?_)))))
  show wpAny _ _ (holding [Value.builtin "object.__class__"] (call (.builtin "getset_descriptor.__get__") [.builtin "object.__class__", .ref x, .ref D]) >>= ret) _ _ _
  refine wpAny_bind (wpAny_holding (wpAny_call (class_get (s := ⟨hp, g, d, t + 1, os⟩) (ox := ox) (od := oD) X I ca8 ?_)))
  refine wpAny_pure ?_
  show wpAny _ _ (handedOut (.ref D)) _ _ _
  rw [handedOut_of (v := .ref D) rfl]
  first
    | exact wpAny_pure (wpAny_pure h)
    | exact wpAny_pure h
    | exact wpAny_pure (wpAny_bind (wpAny_pure (wpAny_pure h)))
theorem kitx_exd (ca1 : findIn K (.ref D) "__getattribute__" = some (some (.builtin "BaseException.__getattribute__"))) (ca2 : findIn K (.ref D) "__getattr__" = some none) (ca3 : subIn K (.ref D) (.type "BaseException") = some true) (ca4 : hasDictIn K D = true) (ca5 : findIn K (.ref D) "__class__" = some (some (.builtin "object.__class__")))
    (ca6 : specialIn K (.builtin "object.__class__") "__get__" = some (some (.builtin "getset_descriptor.__get__"))) (ca7 : takesIn K (.builtin "object.__class__") = some true) (ca8 : mroIn K D (.type "object") = some true) :
    KitX K (.ref x) (.ref D) (fun h => InstAt h x ox D oD) where
  ty := fun _ _ _ I => I.type
  it := fun _ _ X _ => by
    obtain ⟨dD, clD, _⟩ := any_some ca4
    unfold clsIn at clD
    split at clD
    · rename_i c' d' cd' sl' ho
      intro A' Q' E' s' k q
      unfold isType loadHead
      exact wpAny_bind (wpAny_loadPart (k _ _ (X _ _ ho)) (wpAny_pure q))
    · cases clD
  ne := fun h tp dd its n sl X htp => by
    obtain ⟨dD, clD, _⟩ := any_some ca4
    refine Bool.eq_false_iff.mpr fun q => ?_
    have e : D = tp := Value.ref.inj (beq_iff_eq.mp q)
    subst e
    unfold clsIn at clD
    split at clD
    · rename_i c' d' cd' sl' ho
      have z := (X _ _ ho).symm.trans htp
      cases z
    · cases clD
  ca := fun X I k => kin_clsD ca1 ca2 ca3 ca4 ca5 ca6 ca7 ca8 X I k
end
end PySem.W
namespace Fe
open PySem PySem.Spec PyProof.Rows L2
/-! ### the suite's readings: the caught exception in slot i -/
def XF (G : Kx) (d : Option Addr) (ex : Exc) : Hp → Prop := fun A => (ex.fs = [] ∧ d = none) ∨ ∃ a fs, d = some a ∧ A a = some (.xd fs) ∧ ∀ f x, (f, x) ∈ ex.fs → ∃ v, fs.lookup f = some v ∧ Dq G.K A v x
def tQ (G : Kx) (xc : Str) (i : Nat) (a : Addr) (cls : Value) (d : Option Addr) (g : Exc → Option PyData) : TE := fun σ H Q => σ[i]? = some (some (.ref a)) ∧ ∃ (ex : Exc) (fx : Fx) (stk : List (V × AV)) (s : Sx), ex.c = xc ∧ G.mg xc = some cls ∧ XF G d ex fx.B ∧ Rel G fx stk s σ H ∧
  ∃ r, g ex = some r ∧ ∀ v H', Rel G fx ((v, .dat r) :: stk) s σ H' → Q v H'
def tQA (G : Kx) (xc : Str) (i : Nat) (a : Addr) (cls : Value) (d : Option Addr) (g : Exc → Option (List PyData)) : TA := fun σ H Q => σ[i]? = some (some (.ref a)) ∧ ∃ (ex : Exc) (fx : Fx) (stk : List (V × AV)) (s : Sx), ex.c = xc ∧ G.mg xc = some cls ∧ XF G d ex fx.B ∧ Rel G fx stk s σ H ∧
  ∃ r, g ex = some r ∧ ∀ (ps : List (V × AV)) H', ps.map (·.2) = r.map .dat → Rel G fx (ps.reverse ++ stk) s σ H' → Q (ps.map (·.1)) H'
section
variable {X : Cx} {xc n : Str} {i : Nat} {a C : Addr} {cls : Value} {d : Option Addr} {oe : Obj} {pn : List (Addr × Obj)} {pos p p2 : Pos} {e c : Expr} {es : List Expr} {g g1 g2 : Exc → Option PyData} {gs : Exc → Option (List PyData)}
abbrev QE (X : Cx) (xc : Str) (i : Nat) (a : Addr) (oe : Obj) (pn : List (Addr × Obj)) (cls : Value) (d : Option Addr) (e : Expr) (g : Exc → Option PyData) : Prop := PE (X.suite a ((a, oe) :: pn)) e (tQ (gx X) xc i a cls d g)
theorem q_str {x : Str} {j : Nat} : QE X xc i a oe pn cls d (.Constant (.str x) j pos) (fun _ => some (.str x)) := pe_imp pe_str fun σ H Q ⟨hs, ex, fx, stk, s, h1, h2, h3, h4, r, e, q⟩ => by
  cases e
  exact q _ _ (h4.scal fun _ => .str _)
theorem q_fld {f : Str} (hm : X.mg xc = some (.ref C)) (T : XfC X.K C) (hno : PySem.W.findIn X.K (.ref C) f = some none) (hz : Zc cls d oe) (hf : ∃ vs, oe.data = .fields vs) (hN : X.N[i]? = some n) (hv : Vis X.env.scope n) (hd : (n == ("__debug__" : Str)) = false := by decide) (hcd : (n == ("__classdict__" : Str)) = false := by decide)
    (hb : attributeBase (.Name n p) f X.env (eval (.Name n p) X.env) = eval (.Name n p) X.env := by rfl) :
    QE X xc i a oe pn cls d (.Attribute (.Name n p) f pos) (fun ex => (ex.fs.find? fun q => decide (q.1 = f)).map (·.2)) := by
  refine pe_imp (pe_xf (X := X) T hno hz hf (pe_var (X := X.suite a ((a, oe) :: pn)) hN hv hd hcd) hb) fun σ H Q ⟨hs, ex, fx, stk, s, h1, h2, h3, h4, r, e, q⟩ => ?_
  obtain ⟨y, e1, e2⟩ := Option.map_eq_some_iff.mp e
  have my := List.mem_of_find?_eq_some e1
  have ey : y.1 = f := of_decide_eq_true (List.find?_some (p := fun q : Str × PyData => decide (q.1 = f)) e1)
  have ec : cls = .ref C := by
    have h2 : X.mg xc = some cls := h2
    rw [hm] at h2; exact (Option.some.inj h2).symm
  rcases h3 with h3 | ⟨dd, fs, ed, el, hx⟩
  · rw [h3.1] at my; cases my
  · obtain ⟨v, lv, qv⟩ := hx y.1 y.2 my
    obtain ⟨T', μ, hr⟩ := h4
    have leB : Le fx.B (dh T' H) := fun b o eb => dh_some.mpr (hr.B b o eb)
    refine ⟨.ref a, hs, rfl, ec, dd, fs, v, ed, (hr.B dd _ el).2, by rw [← ey]; exact lv, q v H ⟨T', μ, hr.push ?_⟩⟩
    show Dq _ _ v r
    rw [← e2]
    exact dq_le leB qv
theorem q_isi {S : Str} {Cs : Addr} {b : Bool} (hm : X.mg xc = some (.ref C)) (hz : Zc cls d oe) (hf : ∃ vs, oe.data = .fields vs) (T : ExcC X.K C) (hS : X.mg S = some (.ref Cs)) (hk : PySem.W.kitOne X.K (.ref C) (.ref Cs) = some b) (hi : X.mg "isinstance" = none) (hN : X.N[i]? = some n) (hv : Vis X.env.scope n) (hgS : Gl X S) (hg : Gl X "isinstance")
    (hd : (n == ("__debug__" : Str)) = false := by decide) (hcd : (n == ("__classdict__" : Str)) = false := by decide) (hdS : (S == ("__debug__" : Str)) = false := by decide) :
    QE X xc i a oe pn cls d (.Call (.Name "isinstance" p) [.Name n p2, .Name S p3] [] pos) (fun _ => some (.bool b)) := by
  have hc : CallR (X.suite a ((a, oe) :: pn)) (.builtin "isinstance") (fun xs H Q => xs = [.ref a, .ref Cs] ∧ cls = .ref C ∧ (d = none ∨ ∃ dd fs, d = some dd ∧ H dd = some (.xd fs)) ∧ Q (.bl b) H) := by
    intro pins s σ H xs us Q I r ⟨exs, ec, hdd, q⟩
    subst exs ec
    obtain ⟨u1, u2, rfl, r1, r2⟩ := r.two
    obtain rfl : u1 = Value.ref a := r1
    obtain rfl : u2 = Value.ref Cs := r2
    obtain ⟨hget, _⟩ := I.pin (a, oe) (List.mem_append.mpr (.inl List.mem_cons_self))
    obtain ⟨vs, hvs⟩ := hf
    have J : ∃ oD, PySem.W.InstAt s.heap a oe C oD := by
      obtain ⟨oc, od, oda, osl⟩ := oe
      obtain ⟨z1, z2⟩ := hz
      dsimp only at z1 z2 hvs
      subst z1 z2 hvs
      rcases hdd with hdd | ⟨dd, fs, ed, el⟩
      · subst hdd
        exact ⟨none, hget, rfl, rfl, trivial⟩
      · subst ed
        have hx : ObjOk X.prog X.w H s.heap dd (.xd fs) := I.hok dd _ el
        obtain ⟨mA, hns, _⟩ := hx
        obtain ⟨o, es, ep, ho, _⟩ := hns
        exact ⟨some o, hget, rfl, rfl, ho⟩
    obtain ⟨oD, J⟩ := J
    exact PySem.W.kia_one (PySem.W.kitx_exd T.hg T.hk T.hs T.hd T.ha T.hn T.ht T.hm) I.kIn J hk (fun z => nomatch z) fun tk => ⟨.bl b, H, I.kept (t' := tk) fun _ _ z => z, rfl, q⟩
  refine pe_imp (pe_callB (X := X.suite a ((a, oe) :: pn)) hc hg hi (by first | rfl | decide +kernel) (pa_cons (pe_var (X := X.suite a ((a, oe) :: pn)) hN hv hd hcd) (pa_cons (pe_glob (X := X.suite a ((a, oe) :: pn)) (v := .ref Cs) hgS hS rfl hdS) pa_nil))) fun σ H Q ⟨hs, ex, fx, stk, s, h1, h2, h3, h4, r, e, q⟩ => ?_
  cases e
  have ec : cls = .ref C := by
    have h2 : X.mg xc = some cls := h2
    rw [hm] at h2; exact (Option.some.inj h2).symm
  have hq := q (.bl b) H (h4.scal fun _ => .bl _)
  obtain ⟨T', μ, hr⟩ := h4
  exact ⟨_, hs, rfl, ec, h3.elim (fun h3 => .inl h3.2) fun ⟨dd, fs, ed, el, _⟩ => .inr ⟨dd, fs, ed, (hr.B dd _ el).2⟩, hq⟩
end
end Fe

/-! Fe20: raise; try .. except X as n: return ..; -/
namespace Fe
open PySem PySem.Spec PyProof.Rows L2
section
variable {X : Cx} {xc n : Str} {i : Nat} {a C : Addr} {cls : Value} {d : Option Addr} {oe : Obj} {pn : List (Addr × Obj)} {pos p p2 : Pos} {e c e1 e2 : Expr} {es : List Expr} {g g1 g2 : Exc → Option PyData} {gs : Exc → Option (List PyData)} {gt : Exc → Option Bool}
abbrev QA (X : Cx) (xc : Str) (i : Nat) (a : Addr) (oe : Obj) (pn : List (Addr × Obj)) (cls : Value) (d : Option Addr) (es : List Expr) (g : Exc → Option (List PyData)) : Prop := PA (X.suite a ((a, oe) :: pn)) es (tQA (gx X) xc i a cls d g)
def qNil : Exc → Option (List PyData) := fun _ => some []
def qCons (g : Exc → Option PyData) (gs : Exc → Option (List PyData)) : Exc → Option (List PyData) := fun ex => match g ex, gs ex with
  | some x, some xs => some (x :: xs)
  | _, _ => none
theorem q_nil : QA X xc i a oe pn cls d [] qNil := pa_imp pa_nil fun σ H Q ⟨hs, ex, fx, stk, s, h1, h2, h3, h4, r, e, q⟩ => by
  cases e
  exact q [] H rfl h4
theorem q_cons (he : QE X xc i a oe pn cls d e g) (hr : QA X xc i a oe pn cls d es gs) (hs : starEach (e :: es) X.env = (false, eval e X.env) :: starEach es X.env := by rfl) : QA X xc i a oe pn cls d (e :: es) (qCons g gs) :=
  pa_imp (pa_cons he hr hs) fun σ H Q ⟨hs, ex, fx, stk, s, h1, h2, h3, h4, r, e, q⟩ => by
    unfold qCons at e
    split at e
    · rename_i x xs e1 e2
      cases e
      exact ⟨hs, ex, fx, stk, s, h1, h2, h3, h4, x, e1, fun v H1 r1 => ⟨hs, ex, fx, _, s, h1, h2, h3, r1, xs, e2, fun ps H2 em r2 => q ((v, .dat x) :: ps) H2 (by rw [List.map_cons, em]; rfl) (by rw [List.reverse_cons, List.append_assoc]; exact r2)⟩⟩
    · cases e
theorem datA_map (r : List PyData) : datA (r.map .dat) = some r := by
  induction r with
  | nil => rfl
  | cons x r ih => show (datA (r.map .dat)).map (x :: ·) = _; rw [ih]; rfl
def qLst (gs : Exc → Option (List PyData)) : Exc → Option PyData := fun ex => match gs ex with
  | some xs => if xs.length ≤ LIM then some (.list xs) else none
  | none => none
theorem q_lst (h : QA X xc i a oe pn cls d es gs) : QE X xc i a oe pn cls d (.List es pos) (qLst gs) := pe_imp (pe_lst h) fun σ H Q ⟨hs, ex, fx, stk, s, h1, h2, h3, h4, r, e, q⟩ => by
  unfold qLst at e
  split at e
  · rename_i xs e1
    split at e
    · rename_i hl
      cases e
      refine ⟨hs, ex, fx, stk, s, h1, h2, h3, h4, xs, e1, fun ps H1 em r1 => ?_⟩
      obtain ⟨T, μ, h5, qd⟩ := r1.tops (ds := xs) (by rw [em]; exact datA_map xs)
      exact ⟨dqAll_le_lim qd hl, fun b hb => q _ _ (Rel.newOwn h5 hb qd).frzTop⟩
    · cases e
  · cases e
def qIf (t : Exc → Option PyData) (g1 g2 : Exc → Option PyData) : Exc → Option PyData := fun ex => match t ex with
  | some (.bool true) => g1 ex
  | some (.bool false) => g2 ex
  | _ => none
theorem q_if (hc : QE X xc i a oe pn cls d c g) (h1 : QE X xc i a oe pn cls d e1 g1) (h2 : QE X xc i a oe pn cls d e2 g2) (he : ∀ whole, isTrue c X.env whole = (do let v ← whole; standAt c.pos; holding [v] (truthy v)) := by intro _; rfl) : QE X xc i a oe pn cls d (.IfExp c e1 e2 pos) (qIf g g1 g2) :=
  pe_imp (pe_ifExp (pt_val (X := X.suite a ((a, oe) :: pn)) hc he) h1 h2) fun σ H Q ⟨hs, ex, fx, stk, s, h1, h2, h3, h4, r, e, q⟩ => by
    unfold qIf at e
    split at e
    · rename_i et
      exact ⟨hs, ex, fx, stk, s, h1, h2, h3, h4, _, et, fun v H1 r1 => ⟨true, r1.bl, hs, ex, fx, stk, s, h1, h2, h3, r1.pop, r, e, q⟩⟩
    · rename_i et
      exact ⟨hs, ex, fx, stk, s, h1, h2, h3, h4, _, et, fun v H1 r1 => ⟨false, r1.bl, hs, ex, fx, stk, s, h1, h2, h3, r1.pop, r, e, q⟩⟩
    · cases e
end

/-! ### raise C(e) -/
def mRaise (xc f : Str) (fs : Sx → Res (List AV)) : Sx → Res Fl := fun s => (fs s).bind fun as s1 => match as with
  | [.dat x] => .exc ⟨xc, [(f, x)]⟩ s1
  | _ => .stuck
theorem heap_end {H1 : Hp} {b dx C : Addr} {f : Str} {v : V} (hb : H1 b = none) (hne : dx ≠ b) : upd (del (upd (upd (upd H1 b (exo b C none)) dx (exd dx [(f, v)])) b (exo b C (some dx))) b) dx (.xd [(f, v)]) = upd H1 dx (.xd [(f, v)]) := by
  funext c
  by_cases h1 : c = dx
  · rw [h1, upd_same, upd_same]
  · rw [upd_ne h1, upd_ne h1]
    by_cases h2 : c = b
    · rw [h2, del_same, hb]
    · rw [del_ne h2, upd_ne h2, upd_ne h1, upd_ne h2]
section
variable {X : Cx} {W : WX} {xc f : Str} {C fI : Addr} {k : Nat} {fd : FuncData} {ps : List Str} {e : Expr} {fs : Sx → Res (List AV)} {p pos pos2 : Pos}
theorem fs_raise (hc : X.calm = true) (tk : Takes X W) (T : OexC X.K C) (iC : PySem.W.findIn X.K (.ref C) "__init__" = some (some (.ref fI))) (tI : PySem.W.typeIn X.K (.ref fI) = some (.type "function")) (F1 : FnOk X.prog X.w X.K X.mg X.base (L2.CX X.prog X.w) k fI fd ps (spI C f))
    (hr : Room (k + 1) X.A) (hb : Binds X.K fd ps []) (hx : Passes (L2.CX X.prog X.w) X (fun _ _ _ => False)) (hm : X.mg xc = some (.ref C)) (ha : FA X W [e] fs) (hg : Gl X xc := by rfl) (hdb : (xc == ("__debug__" : Str)) = false := by decide) (he : starEach [e] X.env = (false, eval e X.env) :: starEach [] X.env := by rfl)
    (hpl : (backTo pos (starEach [] X.env)).any (·.1) = false := by rfl) : FS X W (.Raise (some (.Call (.Name xc p) [e] [] pos)) none pos2) (mRaise xc f fs) :=
  ps_imp (L2.ps_raise hc tk (pmk_oex (dvs := []) (ds := []) T iC tI F1 hr hb .nil hx hg hm ha hdb he hpl)) fun D σ H ⟨fx, stk, s, hn, h, pp⟩ =>
    ⟨fx, stk, s, h, (Post.bind pp).mono (fun as s1 pp qs H2 eq h2 => by
      subst eq
      match qs with
      | [] => exact pp.elim
      | (_, av) :: _ :: _ => cases av <;> exact pp.elim
      | [(v, av)] =>
        refine ⟨by show 1 ≤ 1000; decide, fun b hb' => ⟨b, v, by simp, upd_same, fun dx hdx hne => ⟨rfl, dx, [(f, v)], upd_same, by rw [upd_ne hne, upd_same], by rw [upd_ne hne] at hdx; exact hdx, ?_⟩⟩⟩
        rw [heap_end hb' hne]
        rw [upd_ne hne] at hdx
        cases av with
        | dat x =>
          have pp : XwS (gx X) W fx stk ⟨xc, [(f, x)]⟩ s1 := pp
          obtain ⟨T', μ, hR⟩ := h2
          have hR : R (gx X) fx T' μ ((v, .dat x) :: stk) s1 σ H2 := hR
          refine pp (.ref C) (some dx) σ _ ⟨_, μ, hR.pop.fresh hdx .data, hm, .inr ⟨dx, [(f, v)], rfl, dh_some.mpr ⟨Tset_same, upd_same⟩, fun f' x' m => ?_⟩⟩
          rcases List.mem_cons.mp m with m | m
          · cases m
            exact ⟨v, by rw [List.lookup_cons_self], dq_le (chg_new hdx).le hR.stk.1⟩
          · cases m
        | _ => exact pp.elim) fun _ _ x => x.to⟩
end
/-! ### try: .. except xc as n: return e -/
def mTry (xc : Str) (i : Nat) (b : Sx → Res Fl) (g : Exc → Option PyData) : Sx → Res Fl := fun s => match b s with
  | .ok fl s1 => .ok fl s1
  | .stuck => .stuck
  | .exc ex s1 => if ex.c = xc ∧ i < s1.env.length then (match g ex with
    | some r => .ok (.ret (.dat r)) { s1 with env := s1.env.set i none }
    | none => .stuck) else .stuck
theorem R.weakB {G : Kx} {fx : Fx} {T : Addr → Tag} {μ : Nat → Addr} {stk : List (V × AV)} {s : Sx} {σ : L2.St} {H : Hp} {B' : Hp} (le : Le fx.B B') (h : R G { fx with B := B' } T μ stk s σ H) : R G fx T μ stk s σ H := ⟨h.stk, h.len, h.env, h.sto, h.fr, fun a o e => h.B a o (le a o e), h.n0, h.mu⟩
section
variable {X : Cx} {W : WX} {xc n : Str} {i k : Nat} {C : Addr} {body : List Stmt} {b : Sx → Res Fl} {e : Expr} {g : Exc → Option PyData} {np pos pos' pr : Pos}
theorem fs_tryAs (i : Nat) (hs : X.stack = X.env :: X.outer) (hf : X.env.frame = some X.env.locals) (hN : X.N.Nodup) (tk : Takes X W) (hm : X.mg xc = some (.ref C)) (hx : PySem.W.exmOne X.K (.ref C) (.ref C) = some true) (hgl : Gl X xc) (hd : (xc == ("__debug__" : Str)) = false)
    (hb : ∀ (W' : WX) (pn : List (Addr × Obj)) (xe : Value → Shared → Prop), Takes (X.tr pn xe) W' → PassesOwn (model X.prog X.w) X.A X.env xe → FSs (X.tr pn xe) W' body b)
    (hsu : ∀ (a : Addr) (oe : Obj) (cls : Value) (d : Option Addr) (pn : List (Addr × Obj)), Zc cls d oe → (∃ vs, oe.data = .fields vs) → QE X xc i a oe pn cls d e g)
    (hi : X.N[i]? = some n := by rfl) (hln : X.env.kindOf n = some .local := by rfl) :
    FS X W (.Try body [.ExceptHandler (some (.Name xc np)) (some n) [.Return (some e) pr] pos'] [] [] pos) (mTry xc i b g) :=
  ps_imp (L2.ps_try_as (ts := fun a cls d => tRet (tQ (gx X) xc i a cls d g)) (tb := fun W' => tSOf (gx X) W' b) (c := .ref C) (Wout := fun _ _ _ _ => False) hs hf hN hi hln ⟨hgl, hd, .inl hm⟩ (fun _ _ ⟨_, _, _, _, _, _, _, _, _, _, _, _, _, _, _, _, w⟩ => w.elim) (fun W' pn xe t1 t2 => hb W' pn xe t1 t2) (fun a oe cls d pn z1 z2 => pss_one (ps_ret (hsu a oe cls d pn z1 z2)))) fun D σ H ⟨fx, stk, s, hn, h, pp⟩ => by
    refine ⟨fx, stk, s, hn, h, ?_⟩
    have pp : Post (match b s with
      | .ok fl s1 => Res.ok fl s1
      | .stuck => .stuck
      | .exc ex s1 => if ex.c = xc ∧ i < s1.env.length then (match g ex with
        | some r => .ok (.ret (.dat r)) { s1 with env := s1.env.set i none }
        | none => .stuck) else .stuck) (ΦS (gx X) fx stk D) (XwS (gx X) W fx stk) := pp
    cases eb : b s with
    | stuck => rw [eb] at pp; exact pp.elim
    | ok fl s1 => rw [eb] at pp; exact pp
    | exc ex s1 =>
      rw [eb] at pp
      by_cases hc : ex.c = xc ∧ i < s1.env.length
      · have pp : Post (if ex.c = xc ∧ i < s1.env.length then (match g ex with
          | some r => .ok (.ret (.dat r)) { s1 with env := s1.env.set i none }
          | none => .stuck) else .stuck) (ΦS (gx X) fx stk D) (XwS (gx X) W fx stk) := pp
        rw [if_pos hc] at pp
        cases eg : g ex with
        | none => rw [eg] at pp; exact pp.elim
        | some r =>
          rw [eg] at pp
          intro c d σ' H' ⟨T, μ, hR, hcx, hfx⟩
          rw [hc.1] at hcx
          have hcx' : X.mg xc = some c := hcx
          have ec : c = .ref C := by rw [hm] at hcx'; exact (Option.some.inj hcx').symm
          refine ⟨true, by rw [ec]; exact hx, fun _ a ha => ?_, fun z => nomatch z⟩
          have h0 : R (gx X) fx T μ stk { s1 with env := s1.env.set i none } σ' H' := hR.forget i
          have hlt : i < σ'.length := by rw [← hR.len]; exact hc.2
          have h1 := h0.sigma (σ' := σ'.set i (some (.ref a))) hn (List.length_set ..) fun j av ej => by
            have ej : (s1.env.set i none)[j]? = some (some av) := ej
            by_cases hj : i = j
            · subst hj
              rw [List.getElem?_set_self hc.2] at ej; cases ej
            · rw [List.getElem?_set_ne hj]
          have leB : Le fx.B (dh T H') := fun z o ez => dh_some.mpr (hR.B z o ez)
          have h2 : R (gx X) { fx with B := dh T H' } T μ stk { s1 with env := s1.env.set i none } (σ'.set i (some (.ref a))) H' := ⟨h1.stk, h1.len, h1.env, h1.sto, h1.fr, fun z o ez => dh_some.mp ez, h1.n0, h1.mu⟩
          refine ⟨List.getElem?_set_self hlt, ex, { fx with B := dh T H' }, stk, { s1 with env := s1.env.set i none }, hc.1, hcx, hfx, ⟨T, μ, h2⟩, r, eg, fun v H1 ⟨T', μ', h3⟩ => ?_⟩
          exact pp v _ H1 ⟨T', μ', h3.weakB leB⟩
      · have pp : Post (if ex.c = xc ∧ i < s1.env.length then (match g ex with
          | some r => Res.ok (Fl.ret (.dat r)) { s1 with env := s1.env.set i none }
          | none => .stuck) else .stuck) (ΦS (gx X) fx stk D) (XwS (gx X) W fx stk) := pp
        rw [if_neg hc] at pp; exact pp.elim
end
end Fe

/-! Fe21: what the head says of an own exception class whose __init__ says super().__init__(p). -/
namespace Fe
open PySem PySem.Spec PyProof.Rows L2
structure SupW where
  qual : Str
  params : Arguments
  body : FuncBody
  scope : Scope
  ok : Bool
def isNon : Value → Bool
  | .none => true
  | _ => false
def cellB (K : PySem.W.Frag) (cc C : Addr) : Bool := match K.lookup cc with
  | some ⟨_, _, .cell (some (.ref D)), _⟩ => decide (D = C)
  | _ => false
def fileB (K : PySem.W.Frag) (cda : Addr) (file : Str) : Bool := match K.lookup cda with
  | some ⟨_, _, .fields vs, _⟩ => (match (vs[2]? : Option Value) with
    | some (.str fl _) => decide (fl = file)
    | _ => false)
  | _ => false
def oexB (K : PySem.W.Frag) (C : Addr) : Bool := match K.lookup C with
  | some ⟨.type "type", _, .cls cd, sl⟩ => (match cd.mro, sl.toList with
    | .ref C' :: bm, [_, _, _, _, some (.builtin nn), _] => decide (C' = C) && (decide (nn = "ValueError.__new__") && (!cd.hasDel && (cd.hasDict && PySem.HandSPX.refsVE bm)))
    | _, _ => false)
  | _ => false
def dec (a b : Option (Option Value)) : Bool := decide (a = b)
def ecB (K : PySem.W.Frag) (D : Addr) : Bool := dec (PySem.W.findIn K (.ref D) "__class__") (some (some (.builtin "object.__class__"))) && (dec (PySem.W.specialIn K (.builtin "object.__class__") "__get__") (some (some (.builtin "getset_descriptor.__get__"))) &&
  (decide (PySem.W.takesIn K (.builtin "object.__class__") = some true) && decide (PySem.W.mroIn K D (.type "object") = some true)))
def clsB (K : PySem.W.Frag) (C fI : Addr) (f : Str) : Bool := oexB K C && (dec (PySem.W.findIn K (.ref C) "__setattr__") (some (some (.builtin "object.__setattr__"))) && (decide (PySem.W.subIn K (.ref C) (.type "BaseException") = some true) && (decide (PySem.W.typeIn K (.ref C) = some (.type "type")) && (PySem.W.keepIn K (.ref C) &&
  (dec (PySem.W.findIn K (.ref C) "__init__") (some (some (.ref fI))) && (decide (PySem.W.typeIn K (.ref fI) = some (.type "function")) && (dec (PySem.W.findIn K (.ref C) f) (some none) && (dec (PySem.W.ks_superIn K C C "__init__") (some (some (.builtin "ValueError.__init__"))) &&
  (decide (PySem.W.subIn K (.ref C) (.type "ValueError") = some true) && (decide (PySem.W.mroIn K C (.ref C) = some true) && (dec (PySem.W.nsIn K cStatics "thirdparty.any") (some none) && (xfB K C && (ecB K C && decide (PySem.W.exmOne K (.ref C) (.ref C) = some true))))))))))))))
def supW (K : PySem.W.Frag) (x f file : Str) : Option SupW := match K.lookup (He.ma K (He.ga K x) "__init__") with
  | some ⟨_, _, .func fd, _⟩ => (match fd.closure, fd.code with
    | [(nm, cc)], .ref cda => some ⟨fd.qualname, fd.params, fd.body, fd.scope, decide (fd.name = "__init__") && (decide (nm = "__class__") && (decide (fd.globals = mainGlobals) && (decide (fd.builtins = builtinsNs) && (isNon fd.defaults && (isNon fd.kwdefaults &&
      (PySem.W.codeIn K (.ref cda) fd.qualname && (cellB K cc (He.ga K x) && (fileB K cda file && clsB K (He.ga K x) (He.ma K (He.ga K x) "__init__") f))))))))⟩
    | _, _ => none)
  | _ => none
structure SupC (P : Program) (K : PySem.W.Frag) (C fI : Addr) (fd : FuncData) (p f : Str) : Prop where
  ini : ∀ (w : World) (mg : Str → Option Value) (base : Heap), mg "super" = none → FnOk P w K mg base (L2.CX P w) 1 fI fd ["self", p] (spI C f)
  bn : Binds K fd ["self", p] []
  oex : OexC K C
  iC : PySem.W.findIn K (.ref C) "__init__" = some (some (.ref fI))
  tI : PySem.W.typeIn K (.ref fI) = some (.type "function")
  hno : PySem.W.findIn K (.ref C) f = some none
  xf : XfC K C
  ec : ExcC K C
  exm : PySem.W.exmOne K (.ref C) (.ref C) = some true
theorem cellB_ok {K : PySem.W.Frag} {cc C : Addr} (h : cellB K cc C = true) : ∃ cl cld csl, K.lookup cc = some ⟨cl, cld, .cell (some (.ref C)), csl⟩ := by
  unfold cellB at h
  split at h
  · rename_i cl cld D csl e
    have e2 := of_decide_eq_true h
    subst e2
    exact ⟨_, _, _, e⟩
  · cases h
theorem fileB_ok {K : PySem.W.Frag} {cda : Addr} {file : Str} (h : fileB K cda file = true) : ∃ ccl cdd vs ccs tf, K.lookup cda = some ⟨ccl, cdd, .fields vs, ccs⟩ ∧ vs[2]? = some (.str file tf) := by
  unfold fileB at h
  split at h
  · rename_i ccl cdd vs ccs e
    split at h
    · rename_i fl tf e1
      have e2 := of_decide_eq_true h
      subst e2
      exact ⟨_, _, _, _, _, e, e1⟩
    · cases h
  · cases h
theorem oexB_ok {K : PySem.W.Frag} {C : Addr} (q : oexB K C = true) : ∃ nm q N bs bm sn sub ab col dd k0 k1 k2 k3 k5, K.lookup C = some (excClassObj nm q C N bs bm true sn sub ab col dd k0 k1 k2 k3 k5 "ValueError.__new__") ∧ PySem.HandSPX.refsVE bm = true := by
  unfold oexB at q
  split at q
  · rename_i dd cd sl ho
    split at q
    · rename_i C' bm k0 k1 k2 k3 nn k5 hm hs
      simp only [Bool.and_eq_true, decide_eq_true_eq, Bool.not_eq_true'] at q
      obtain ⟨e1, e2, e3, e4, e5⟩ := q
      obtain ⟨nm, bs, mro, ns, qn, hd, sn, sub, ab, col, del⟩ := cd
      dsimp only at hm e3 e4
      subst e1 e2 e3 e4 hm
      have hsl : sl = #[k0, k1, k2, k3, some (.builtin "ValueError.__new__"), k5] := by
        obtain ⟨l⟩ := sl
        simp only at hs
        rw [hs]
      subst hsl
      exact ⟨nm, qn, ns, bs, bm, sn, sub, ab, col, dd, k0, k1, k2, k3, k5, ho, e5⟩
    · cases q
  · cases q
theorem isNon_ok {v : Value} (h : isNon v = true) : v = .none := by
  cases v <;> first | rfl | cases h
theorem supW_ok {P : Program} {K : PySem.W.Frag} {x f p qual : Str} {params : Arguments} {scope : Scope} {ar : Arg} {q0 q1 q2 q3 q4 q5 q6 q7 q8 q9 : Pos} {pl : Sem Bool} (h : supW K x f P.main.file = some ⟨qual, params, .stmts (supBody p f q0 q1 q2 q3 q4 q5 q6 q7 q8 q9), scope, true⟩)
    (hh : (params.posonlyargs ++ params.args).head? = some ar) (har : ar.arg = "self")
    (hp : p ≠ "self") (k1 : scope.names.lookup ("self" : Str) = some .local) (k2 : scope.names.lookup p = some .local) (k3 : scope.names.lookup ("super" : Str) = some .globalImplicit) (k4 : scope.names.lookup ("__class__" : Str) = some .free)
    (k5 : ∀ y ∈ scope.names, y.2 ≠ .cell) (k6 : scope.isCoroutine = false) (k7 : scope.isGenerator = false) (k8 : scope.kind = .function) (hpd : (p == ("__debug__" : Str)) = false) (htop : (P.main.scope.names.lookup ("super" : Str)).isSome = false)
    (k9 : ∀ (doc pm ct : Value) (an : Option Addr) (cda cc L fI : Addr), interactive (callEnv (PySem.W.ksFn "__init__" qual params (supBody p f q0 q1 q2 q3 q4 q5 q6 q7 q8 q9) scope .none .none doc pm an (.ref cda) ct cc) L fI) = false)
    (he : ∀ (doc pm ct : Value) (an : Option Addr) (cda cc L fI : Addr), eval (.Call (.Attribute (.Call (.Name "super" q0) [] [] q1) "__init__" q2) [.Name p q3] [] q4) (callEnv (PySem.W.ksFn "__init__" qual params (supBody p f q0 q1 q2 q3 q4 q5 q6 q7 q8 q9) scope .none .none doc pm an (.ref cda) ct cc) L fI) = (do
      let ov ← attributeBase (.Call (.Name "super" q0) [] [] q1) "__init__" (callEnv (PySem.W.ksFn "__init__" qual params (supBody p f q0 q1 q2 q3 q4 q5 q6 q7 q8 q9) scope .none .none doc pm an (.ref cda) ct cc) L fI) (eval (.Call (.Name "super" q0) [] [] q1) (callEnv (PySem.W.ksFn "__init__" qual params (supBody p f q0 q1 q2 q3 q4 q5 q6 q7 q8 q9) scope .none .none doc pm an (.ref cda) ct cc) L fI))
      standAt q2.atName
      let (fn, first) ← holding [ov] (getMethod ov "__init__" pl)
      callWith q4 fn first (backTo q4 (starEach [.Name p q3] (callEnv (PySem.W.ksFn "__init__" qual params (supBody p f q0 q1 q2 q3 q4 q5 q6 q7 q8 q9) scope .none .none doc pm an (.ref cda) ct cc) L fI))) []))
    (hbind : ∀ (doc pm ct : Value) (an : Option Addr) (cda cc : Addr) (us : List Value), us.length = (["self", p] : List Str).length → bindArgs (PySem.W.ksFn "__init__" qual params (supBody p f q0 q1 q2 q3 q4 q5 q6 q7 q8 q9) scope .none .none doc pm an (.ref cda) ct cc) ⟨us, []⟩ = pure ((["self", p] : List Str).zip us)) :
    ∃ fd, SupC P K (He.ga K x) (He.ma K (He.ga K x) "__init__") fd p f := by
  unfold supW at h
  split at h
  · rename_i oc od fd osl lk
    split at h
    · rename_i nm cc cda ecl eco
      have h := Option.some.inj h
      obtain ⟨nm', qn', pr', bd', sc', gl', cl', dv', kv', doc', pm', an', co', ct', bl'⟩ := fd
      dsimp only at h ecl eco
      injection h with h1 h2 h3 h4 h5
      simp only [Bool.and_eq_true, decide_eq_true_eq] at h5
      obtain ⟨a1, a2, a3, a4, a5, a6, a7, a8, a9, a10⟩ := h5
      have a5 := isNon_ok a5
      have a6 := isNon_ok a6
      subst h1 h2 h3 h4 a1 a3 a4 a5 a6 ecl eco a2
      obtain ⟨cl, cld, csl, lcc⟩ := cellB_ok a8
      obtain ⟨ccl, cdd, vs, ccs, tf, lcd, hvs⟩ := fileB_ok a9
      unfold clsB at a10
      simp only [Bool.and_eq_true] at a10
      obtain ⟨c1, c2, c3, c4, c5, c6, c7, c8, c9, c10, c11, c12, c13, c14, c15⟩ := a10
      unfold ecB at c14
      simp only [Bool.and_eq_true] at c14
      obtain ⟨d1, d2, d3, d4⟩ := c14
      have T : OexC K (He.ga K x) := ⟨oexB_ok c1, of_decide_eq_true c2, of_decide_eq_true c3, of_decide_eq_true c4, c5⟩
      have XF := xfB_ok c13
      exact ⟨_, fun w mg base hm => init_ok lk a7 hh har lcd hvs lcc hp k1 k2 k3 k4 k5 k6 k7 k8 hpd T (of_decide_eq_true c8) (of_decide_eq_true c9) (of_decide_eq_true c10) (of_decide_eq_true c11) (of_decide_eq_true c12) (fun L => he _ _ _ _ _ _ L _) (fun L => k9 _ _ _ _ _ _ L _) hm htop,
        .all (hbind _ _ _ _ _ _), T, of_decide_eq_true c6, of_decide_eq_true c7, of_decide_eq_true c8, XF, ⟨XF.ga, XF.gg, XF.exC, XF.hdC, of_decide_eq_true d1, of_decide_eq_true d2, of_decide_eq_true d3, of_decide_eq_true d4⟩, of_decide_eq_true c15⟩
    · cases h
  · cases h
/-! ### the hook -/
abbrev AlX : Type := He.AlD × List (Option SupW)
def obsX (n : Nat) (fa : List He.Fa) (fn : List He.DefD) (xs : List (Str × Str)) (file : Str) (g : Addr → Option Obj) : AlX := (He.obsD fa fn (He.frG g (cStatics :: He.asD g n)), xs.map fun q => supW (He.frG g (cStatics :: He.asD g n)) q.1 q.2 file)
def SaysX (fa : List He.Fa) (fn : List He.DefD) (xs : List (Str × Str)) (file : Str) (vs : List (Option SupW)) (K : PySem.W.Frag) : Prop := He.SaysD fa fn K ∧ (xs.map fun q => supW K q.1 q.2 file) = vs
def hookX (n : Nat) (fa : List He.Fa) (fn : List He.DefD) (xs : List (Str × Str)) (file : Str) (vs : List (Option SupW)) : PySem.W.Hook where
  α := AlX
  obs := fun s => obsX n fa fn xs file s.heap.get?
  val := fun _ => (He.valD fn, vs)
  says := fun _ h => ∃ K : PySem.W.Frag, K.In h ∧ SaysX fa fn xs file vs K
  of := fun _ _ e => ⟨_, He.frG_in, congrArg Prod.fst e, congrArg Prod.snd e⟩
  keeps := fun _ _ _ ⟨K, hK, c⟩ k => ⟨K, PySem.W.Frag.In.keeps hK k, c⟩
theorem obsX_eq {n : Nat} {fa : List He.Fa} {fn : List He.DefD} {xs : List (Str × Str)} {file : Str} {vs : List (Option SupW)} {g : Addr → Option Obj} {s : Shared} (h : ∀ a, g a = s.heap.get? a) : obsX n fa fn xs file g = (hookX n fa fn xs file vs).obs s := by
  have e : g = s.heap.get? := funext h
  rw [e] <;> rfl
theorem SaysX.sup {fa : List He.Fa} {fn : List He.DefD} {xs : List (Str × Str)} {file : Str} {vs : List (Option SupW)} {K : PySem.W.Frag} (c : SaysX fa fn xs file vs K) (i : Nat) {q : Str × Str} {v : Option SupW} (h1 : xs[i]? = some q := by rfl) (h2 : vs[i]? = some v := by rfl) : supW K q.1 q.2 file = v := by
  have e : (xs.map fun q => supW K q.1 q.2 file)[i]? = vs[i]? := by rw [c.2]
  rw [List.getElem?_map, h1, h2] at e
  exact Option.some.inj e
end Fe
namespace Fe
open PySem PySem.Spec PyProof.Rows L2
def qFld (f : Str) : Exc → Option PyData := fun ex => (ex.fs.find? fun q => decide (q.1 = f)).map (·.2)
theorem kit_of_exm {K : PySem.W.Frag} {t c : Value} (h : PySem.W.exmOne K t c = some true) : PySem.W.kitOne K t c = some true := by
  unfold PySem.W.exmOne at h
  unfold PySem.W.kitOne
  split at h
  · split
    · rfl
    · exact h
  · cases h
theorem exm_fact {K : PySem.W.Frag} {x y : Str} {b : Bool} (c : (He.Fa.exm x y b).ok K = true) : PySem.W.exmOne K (.ref (He.ga K x)) (.ref (He.ga K y)) = some b := of_decide_eq_true c
theorem passF {X : Cx} : Passes (L2.CX X.prog X.w) X (fun _ _ _ => False) := fun _ _ _ _ _ _ _ ⟨_, _, _, _, _, _, _, _, _, _, _, _, f⟩ => f.elim
theorem Bd.tr {X : Cx} {W W' : WX} {k : Nat} {pn : List (Addr × Obj)} {xe : Value → Shared → Prop} (B : Bd X W k) (t1 : Takes (X.tr pn xe) W') (t2 : PassesOwn (model X.prog X.w) X.A X.env xe) : Bd (X.tr pn xe) W' k := ⟨B.calm, t2, t1, B.room, B.gd⟩
end Fe

/-! Fe22: mirrors reckoned. -/
namespace Fe
open PySem PySem.Spec PyProof.Rows L2
abbrev I (n : Int) : AV := .dat (.int n)
abbrev okI (n : Int) (sto : List SO) : Res AV := .ok (.dat (.int n)) ⟨[], sto⟩
@[simp] theorem bind_ok {α β : Type} {a : α} {s : Sx} {f : α → Sx → Res β} : (Res.ok a s).bind f = f a s := rfl
@[simp] theorem bind_stuck {α β : Type} {f : α → Sx → Res β} : (Res.stuck : Res α).bind f = .stuck := rfl
@[simp] theorem bind_exc {α β : Type} {e : Exc} {s : Sx} {f : α → Sx → Res β} : (Res.exc e s : Res α).bind f = .exc e s := rfl
@[simp] theorem ofO_some {α : Type} {a : α} {s : Sx} : ofO (some (a, s)) = .ok a s := rfl
@[simp] theorem ofO_none {α : Type} : (ofO (none : Option (α × Sx))) = .stuck := rfl
@[simp] theorem mSeq_ap {f g : Sx → Res Fl} {s : Sx} : mSeq f g s = (f s).bind fun fl s1 => match fl with | .next => g s1 | r => .ok r s1 := rfl
@[simp] theorem mNext_ap {s : Sx} : mNext s = .ok .next s := rfl
@[simp] theorem mC_ap {d : PyData} {s : Sx} : mC d s = .ok (.dat d) s := rfl
@[simp] theorem mVar_ap {i : Nat} {s : Sx} : mVar i s = ofO ((rdv i s.env[i]?).map fun av => (av, s)) := rfl
@[simp] theorem rdv_dat {i : Nat} {d : PyData} : rdv i (some (some (.dat d))) = some (.dat d) := rfl
@[simp] theorem rdv_obj {i : Nat} {d : Nat} : rdv i (some (some (.obj d))) = some (.obj d) := rfl
@[simp] theorem rdv_scr {i : Nat} {d : List Int} : rdv i (some (some (.scr d))) = some (.scr d) := rfl
@[simp] theorem rdv_own {i : Nat} {d : List PyData} : rdv i (some (some (.own d))) = some (.pk i) := rfl
@[simp] theorem mOp_ap {g : AV → AV → Sx → Option (AV × Sx)} {f1 f2 : Sx → Res AV} {s : Sx} : mOp g f1 f2 s = (f1 s).bind fun a s1 => (f2 s1).bind fun b s2 => ofO (g a b s2) := rfl
@[simp] theorem mUn_ap {g : AV → Sx → Option (AV × Sx)} {f : Sx → Res AV} {s : Sx} : mUn g f s = (f s).bind fun a s1 => ofO (g a s1) := rfl
@[simp] theorem mFrz_ap {f : Sx → Res AV} {s : Sx} : mFrz f s = (f s).bind fun a s1 => ofO (frz a s1) := rfl
@[simp] theorem frz_dat {d : PyData} {s : Sx} : frz (.dat d) s = some (.dat d, s) := rfl
@[simp] theorem frz_obj {l : Nat} {s : Sx} : frz (.obj l) s = some (.obj l, s) := rfl
@[simp] theorem frz_scr {l : List Int} {s : Sx} : frz (.scr l) s = some (.scr l, s) := rfl
@[simp] theorem frz_own {l : List PyData} {s : Sx} : frz (.own l) s = some (.dat (.list l), s) := rfl
@[simp] theorem frz_pk {i : Nat} {s : Sx} : frz (.pk i) s = frzAt i s s.env[i]? := rfl
@[simp] theorem frzAt_own {i : Nat} {s : Sx} {ds : List PyData} : frzAt i s (some (some (.own ds))) = some (.dat (.list ds), { s with env := s.env.set i (some (.dat (.list ds))) }) := rfl
@[simp] theorem mCons_ap {f : Sx → Res AV} {g : Sx → Res (List AV)} {s : Sx} : mCons f g s = (f s).bind fun a s1 => (g s1).bind fun as s2 => .ok (a :: as) s2 := rfl
@[simp] theorem mNil_ap {s : Sx} : mNil s = .ok [] s := rfl
@[simp] theorem mSet_ap {i : Nat} {f : Sx → Res AV} {s : Sx} : mSet i f s = (f s).bind fun av s1 => (stv i av s1).bind fun _ s2 => .ok .next s2 := rfl
@[simp] theorem stv_dat {i : Nat} {d : PyData} {s : Sx} : stv i (.dat d) s = .ok () { s with env := s.env.set i (some (.dat d)) } := rfl
@[simp] theorem stv_obj {i : Nat} {d : Nat} {s : Sx} : stv i (.obj d) s = .ok () { s with env := s.env.set i (some (.obj d)) } := rfl
@[simp] theorem stv_own {i : Nat} {d : List PyData} {s : Sx} : stv i (.own d) s = .ok () { s with env := s.env.set i (some (.own d)) } := rfl
@[simp] theorem mRet_ap {f : Sx → Res AV} {s : Sx} : mRet f s = (f s).bind fun av s1 => (ofO (ret av s1)).bind fun bv s2 => .ok (.ret bv) s2 := rfl
@[simp] theorem ret_dat {d : PyData} {s : Sx} : ret (.dat d) s = some (.dat d, s) := rfl
@[simp] theorem ret_obj {d : Nat} {s : Sx} : ret (.obj d) s = some (.obj d, s) := rfl
@[simp] theorem ret_own {d : List PyData} {s : Sx} : ret (.own d) s = some (.own d, s) := rfl
@[simp] theorem mIfS_ap {c : Sx → Res Bool} {f g : Sx → Res Fl} {s : Sx} : mIfS c f g s = (c s).bind fun k s1 => if k = true then f s1 else g s1 := rfl
@[simp] theorem mIf_ap {c : Sx → Res Bool} {f g : Sx → Res AV} {s : Sx} : mIf c f g s = (c s).bind fun k s1 => if k = true then f s1 else g s1 := rfl
@[simp] theorem mTest_ap {f : Sx → Res AV} {s : Sx} : mTest f s = (f s).bind fun a s1 => ofO (asB a s1) := rfl
@[simp] theorem asB_ap {b : Bool} {s : Sx} : asB (.dat (.bool b)) s = some (b, s) := rfl
@[simp] theorem mAnd_ap {t u : Sx → Res Bool} {s : Sx} : mAnd t u s = (t s).bind fun b s1 => if b = true then u s1 else .ok false s1 := rfl
@[simp] theorem mOr_ap {t u : Sx → Res Bool} {s : Sx} : mOr t u s = (t s).bind fun b s1 => if b = true then .ok true s1 else u s1 := rfl
@[simp] theorem mNot_ap {t : Sx → Res Bool} {s : Sx} : mNot t s = (t s).bind fun b s1 => .ok (!b) s1 := rfl
@[simp] theorem mPar2_ap {i j : Nat} {a b : AV} {fs : Sx → Res (List AV)} {s s1 : Sx} (h : fs s = .ok [a, b] s1) (ha : noPkB a = true) (hb : noPkB b = true) : mPar2 i j fs s = .ok .next { s1 with env := (s1.env.set j (some b)).set i (some a) } := by
  unfold mPar2
  rw [h]
  show (if (noPkB a && noPkB b) = true then _ else _) = _
  rw [ha, hb]; rfl
@[simp] theorem add_ii {a b : Int} {s : Sx} : gAdd (I a) (I b) s = some (I (a + b), s) := rfl
@[simp] theorem sub_ii {a b : Int} {s : Sx} : gSub (I a) (I b) s = some (I (a - b), s) := rfl
@[simp] theorem neg_ii {a : Int} {s : Sx} : gNeg (I a) s = some (I (-a), s) := rfl
theorem mod_ii {a b : Int} {s : Sx} (h : 0 < b) : gMod (I a) (I b) s = some (I (a % b), s) := by
  show (if decide (0 < b) = true then _ else _) = _
  rw [if_pos (decide_eq_true h)]
theorem mul_ii {a b : Int} {s : Sx} (h : mulOk a b = true) : gMulI (I a) (I b) s = some (I (a * b), s) := by
  show (if mulOk a b = true then _ else _) = _
  rw [if_pos h]
theorem mulOk_l {a b : Int} (h : a.natAbs < 2 ^ 64) : mulOk a b = true := by unfold mulOk; simp [h]
theorem mulOk_r {a b : Int} (h : b.natAbs < 2 ^ 64) : mulOk a b = true := by unfold mulOk; simp [h]
@[simp] theorem eq_ii {a b : Int} {s : Sx} : gEq (I a) (I b) s = some (.dat (.bool (a == b)), s) := by
  unfold gEq
  show (if SeqAt.shaped (.int a) = true ∧ SeqAt.shaped (.int b) = true then some (AV.dat (.bool (PyData.eqv (.int a) (.int b))), s) else none) = _
  rw [if_pos ⟨rfl, rfl⟩]
  rfl
@[simp] theorem ne_ii {a b : Int} {s : Sx} : gNe (I a) (I b) s = some (.dat (.bool (!(a == b))), s) := by
  unfold gNe
  show (if SeqAt.shaped (.int a) = true ∧ SeqAt.shaped (.int b) = true then some (AV.dat (.bool (!PyData.eqv (.int a) (.int b))), s) else none) = _
  rw [if_pos ⟨rfl, rfl⟩]
  rfl
@[simp] theorem eqA_ii {a b : Int} {s : Sx} : gEqA (I a) (I b) s = some (.dat (.bool (a == b)), s) := eq_ii
@[simp] theorem neA_ii {a b : Int} {s : Sx} : gNeA (I a) (I b) s = some (.dat (.bool (!(a == b))), s) := ne_ii
@[simp] theorem eqA_ss {a b : Str} {s : Sx} : gEqA (.dat (.str a)) (.dat (.str b)) s = some (.dat (.bool (decide (a = b))), s) := rfl
@[simp] theorem neA_ss {a b : Str} {s : Sx} : gNeA (.dat (.str a)) (.dat (.str b)) s = some (.dat (.bool (!decide (a = b))), s) := rfl
@[simp] theorem lt_ii {a b : Int} {s : Sx} : gLt (I a) (I b) s = some (.dat (.bool (decide (a < b))), s) := rfl
@[simp] theorem le_ii {a b : Int} {s : Sx} : gLe (I a) (I b) s = some (.dat (.bool (decide (a ≤ b))), s) := rfl
@[simp] theorem gt_ii {a b : Int} {s : Sx} : gGt (I a) (I b) s = some (.dat (.bool (decide (b < a))), s) := rfl
@[simp] theorem ge_ii {a b : Int} {s : Sx} : gGe (I a) (I b) s = some (.dat (.bool (decide (b ≤ a))), s) := rfl
@[simp] theorem mFn_ap {g : List AV → Sx → Option (AV × Sx)} {fs : Sx → Res (List AV)} {s : Sx} : mFn g fs s = (fs s).bind fun as s1 => ofO (g as s1) := rfl
@[simp] theorem g1_ap {g : AV → Sx → Option (AV × Sx)} {a : AV} {s : Sx} : g1 g [a] s = g a s := rfl
@[simp] theorem int_b {b : Bool} {s : Sx} : gInt (.dat (.bool b)) s = some (I (if b then 1 else 0), s) := rfl
@[simp] theorem int_i {b : Int} {s : Sx} : gInt (I b) s = some (I b, s) := rfl
@[simp] theorem abs_i {b : Int} {s : Sx} : gAbs (I b) s = some (I (if b < 0 then -b else b), s) := rfl
@[simp] theorem argsOk_nil : argsOk [] = true := rfl
@[simp] theorem argsOk_dat {d : PyData} {r : List AV} : argsOk (.dat d :: r) = argsOk r := rfl
@[simp] theorem argsOk_obj {d : Nat} {r : List AV} : argsOk (.obj d :: r) = argsOk r := rfl
@[simp] theorem argsOk_scr {d : List Int} {r : List AV} : argsOk (.scr d :: r) = argsOk r := rfl
def back (s1 : Sx) : Res AV → Res AV
  | .ok av s2 => .ok av { s1 with sto := s2.sto }
  | .exc e s2 => .exc e { s1 with sto := s2.sto }
  | .stuck => .stuck
@[simp] theorem back_ok {s1 s2 : Sx} {av : AV} : back s1 (.ok av s2) = .ok av { s1 with sto := s2.sto } := rfl
@[simp] theorem back_exc {s1 s2 : Sx} {e : Exc} : back s1 (.exc e s2) = .exc e { s1 with sto := s2.sto } := rfl
theorem back_eq {s1 : Sx} (r : Res AV) : (match r with
  | .ok av s2 => Res.ok av { s1 with sto := s2.sto }
  | .exc e s2 => .exc e { s1 with sto := s2.sto }
  | .stuck => .stuck) = back s1 r := by cases r <;> rfl
@[simp] theorem mCall_ap {n : Nat} {F : Mir} {fs : Sx → Res (List AV)} {s : Sx} : mCall n F fs s = (fs s).bind fun as s1 => if as.length = n ∧ argsOk as = true then back s1 (F as s1.sto) else .stuck := by
  unfold mCall
  refine congrArg _ (funext fun as => funext fun s1 => ?_)
  by_cases h : as.length = n ∧ argsOk as = true
  · rw [if_pos h, if_pos h]
    exact back_eq _
  · rw [if_neg h, if_neg h]
/-- what a def hands back -/
def outR (r : Res Fl) : Res AV := r.bind fun fl s' => match fl with
  | .ret (.pk _) => .stuck
  | .ret av => .ok av ⟨[], s'.sto⟩
  | .next => .ok (.dat .none) ⟨[], s'.sto⟩
  | _ => .stuck
@[simp] theorem outR_dat {d : PyData} {s : Sx} : outR (.ok (.ret (.dat d)) s) = .ok (.dat d) ⟨[], s.sto⟩ := rfl
@[simp] theorem outR_obj {d : Nat} {s : Sx} : outR (.ok (.ret (.obj d)) s) = .ok (.obj d) ⟨[], s.sto⟩ := rfl
@[simp] theorem outR_own {d : List PyData} {s : Sx} : outR (.ok (.ret (.own d)) s) = .ok (.own d) ⟨[], s.sto⟩ := rfl
@[simp] theorem outR_exc {e : Exc} {s : Sx} : outR (.exc e s) = .exc e s := rfl
theorem run_out {n m : Nat} {b : Sx → Res Fl} {as : List AV} {sto : List SO} (hn : as.length = n) (ha : argsOk as = true) : runF n m b as sto = outR (b ⟨as.map some ++ List.replicate m none, sto⟩) := if_pos ⟨hn, ha⟩
/-- a test in a body -/
@[simp] theorem bind_ite {α β : Type} {c : Prop} [Decidable c] {r1 r2 : Res α} {f : α → Sx → Res β} : (if c then r1 else r2).bind f = if c then r1.bind f else r2.bind f := by split <;> rfl
@[simp] theorem outR_ite {c : Prop} [Decidable c] {r1 r2 : Res Fl} : outR (if c then r1 else r2) = if c then outR r1 else outR r2 := by split <;> rfl
@[simp] theorem datA_nil : datA [] = some [] := rfl
@[simp] theorem datA_cons {d : PyData} {r : List AV} : datA (.dat d :: r) = (datA r).map (d :: ·) := rfl
def tupR (s1 : Sx) (o : Option (List PyData)) : Res AV := match o with
  | some ds => if ds.length ≤ LIM then .ok (.dat (.tuple ds)) s1 else .stuck
  | none => .stuck
def lstR (s1 : Sx) (o : Option (List PyData)) : Res AV := match o with
  | some ds => if ds.length ≤ LIM then .ok (.own ds) s1 else .stuck
  | none => .stuck
@[simp] theorem tupR_some {s1 : Sx} {ds : List PyData} : tupR s1 (some ds) = if ds.length ≤ LIM then .ok (.dat (.tuple ds)) s1 else .stuck := rfl
@[simp] theorem lstR_some {s1 : Sx} {ds : List PyData} : lstR s1 (some ds) = if ds.length ≤ LIM then .ok (.own ds) s1 else .stuck := rfl
@[simp] theorem mTup_ap {fs : Sx → Res (List AV)} {s : Sx} : mTup fs s = (fs s).bind fun as s1 => tupR s1 (datA as) := rfl
@[simp] theorem mLst_ap {fs : Sx → Res (List AV)} {s : Sx} : mLst fs s = (fs s).bind fun as s1 => lstR s1 (datA as) := rfl
theorem mCall_ok {n : Nat} {F : Mir} {fs : Sx → Res (List AV)} {s s1 s2 : Sx} {as : List AV} {v : AV} (h : fs s = .ok as s1) (hn : as.length = n) (ha : argsOk as = true) (hF : F as s1.sto = .ok v s2) : mCall n F fs s = .ok v { s1 with sto := s2.sto } := by
  unfold mCall
  rw [h, bind_ok, if_pos ⟨hn, ha⟩, hF]
theorem run_ap {n m : Nat} {b : Sx → Res Fl} {as : List AV} {sto : List SO} (hn : as.length = n) (ha : argsOk as = true) : runF n m b as sto = (b ⟨as.map some ++ List.replicate m none, sto⟩).bind fun fl s' => match fl with
  | .ret (.pk _) => .stuck
  | .ret av => .ok av ⟨[], s'.sto⟩
  | .next => .ok (.dat .none) ⟨[], s'.sto⟩
  | _ => .stuck := by
  unfold runF
  exact if_pos ⟨hn, ha⟩
/-- a loop whose body always goes on -/
theorem floop_next {α : Type} {g : AV → Sx → Res Unit} {b : Sx → Res Fl} {st : α → Sx} {step : AV → α → α} : ∀ {items : List AV} {a : α}, (∀ x ∈ items, ∀ a, (g x (st a)).bind (fun _ s1 => b s1) = .ok .next (st (step x a))) →
    floop g b items (st a) = .ok .next (st (items.foldl (fun a x => step x a) a))
  | [], a, _ => rfl
  | x :: xs, a, h => by
    have h1 := h x (List.mem_cons_self ..) a
    have e : floop g b (x :: xs) (st a) = ((g x (st a)).bind fun _ s1 => b s1).bind fun fl s2 => match fl with
      | .next => floop g b xs s2
      | .cont => floop g b xs s2
      | .brk => .ok .next s2
      | .ret av => .ok (.ret av) s2 := by
      show (g x (st a)).bind _ = _
      cases g x (st a) <;> rfl
    rw [e, h1, bind_ok]
    exact floop_next fun y hy => h y (List.mem_cons_of_mem _ hy)
end Fe
namespace Fe
open PySem PySem.Spec PyProof.Rows L2
theorem floop_inv {α : Type} {g : AV → Sx → Res Unit} {b : Sx → Res Fl} {st : α → Sx} {step : AV → α → α} {J : α → Prop} : ∀ {items : List AV} {a : α}, J a → (∀ x ∈ items, ∀ a, J a → (g x (st a)).bind (fun _ s1 => b s1) = .ok .next (st (step x a)) ∧ J (step x a)) →
    floop g b items (st a) = .ok .next (st (items.foldl (fun a x => step x a) a)) ∧ J (items.foldl (fun a x => step x a) a)
  | [], a, ja, _ => ⟨rfl, ja⟩
  | x :: xs, a, ja, h => by
    obtain ⟨h1, j1⟩ := h x (List.mem_cons_self ..) a ja
    have e : floop g b (x :: xs) (st a) = ((g x (st a)).bind fun _ s1 => b s1).bind fun fl s2 => match fl with
      | .next => floop g b xs s2
      | .cont => floop g b xs s2
      | .brk => .ok .next s2
      | .ret av => .ok (.ret av) s2 := by
      show (g x (st a)).bind _ = _
      cases g x (st a) <;> rfl
    rw [e, h1, bind_ok]
    exact floop_inv j1 fun y hy => h y (List.mem_cons_of_mem _ hy)
end Fe
namespace Fe
open PySem PySem.Spec PyProof.Rows L2
theorem cloop_all {vs : List Nat} {g : AV → Sx → Res Unit} {t : Sx → Res Bool} {e : Sx → Res AV} {W0 : Sx} {F : AV → Option PyData} : ∀ {xs : List AV} {acc : List PyData} {s : Sx}, wipeS vs s = W0 →
    (∀ x ∈ xs, ∃ s1 s2, g x W0 = .ok () s1 ∧ ((F x = none ∧ t s1 = .ok false s2 ∧ wipeS vs s2 = W0) ∨ ∃ d s3, F x = some d ∧ t s1 = .ok true s2 ∧ e s2 = .ok (.dat d) s3 ∧ wipeS vs s3 = W0)) → acc.length + xs.length ≤ LIM →
    cloop vs g t e xs acc s = .ok (acc ++ xs.filterMap F) W0
  | [], acc, s, hw, _, _ => by
    rw [List.filterMap_nil, List.append_nil, ← hw]; rfl
  | x :: xs, acc, s, hw, h, hl => by
    rw [List.length_cons] at hl
    obtain ⟨s1, s2, h1, h2⟩ := h x (List.mem_cons_self ..)
    have rest : ∀ y ∈ xs, _ := fun y hy => h y (List.mem_cons_of_mem _ hy)
    unfold cloop
    rw [hw, h1]
    show (noX (t s1)).bind _ = _
    rcases h2 with ⟨f1, f2, f3⟩ | ⟨d, s3, f1, f2, f3, f4⟩
    · rw [f2, List.filterMap_cons_none f1]
      exact cloop_all f3 rest (by omega)
    · rw [f2, List.filterMap_cons_some f1]
      show (noX (e s2)).bind _ = _
      rw [f3]
      show (if acc.length < LIM then cloop vs g t e xs (acc ++ [d]) s3 else .stuck) = _
      rw [if_pos (by omega), cloop_all f4 rest (by rw [List.length_append, List.length_singleton]; omega), List.append_assoc]
      rfl
theorem mLc_ok {vs : List Nat} {it : Sx → Res (List AV)} {g : AV → Sx → Res Unit} {t : Sx → Res Bool} {e : Sx → Res AV} {s s1 s2 : Sx} {items : List AV} {ds : List PyData} (h : it s = .ok items s1) (hc : cloop vs g t e items [] s1 = .ok ds s2) : mLc vs it g t e s = .ok (.own ds) (backS vs s1 s2) := by
  unfold mLc
  rw [h, bind_ok, hc]
  rfl
end Fe

/-! Fe23: how long a repr may be. -/
namespace Fe
open PySem PySem.Spec PyProof.Rows L2
mutual
def wt : PyData → Nat
  | .none => 8
  | .bool _ => 8
  | .int _ => 2000
  | .str x => (reprText x).length
  | .list xs => 4 + wtAll xs
  | .tuple xs => 4 + wtAll xs
  | .dict _ => 0
def wtAll : List PyData → Nat
  | [] => 0
  | x :: xs => wt x + 2 + wtAll xs
end
theorem piled_list (ts : List Str) : (listText ts).length ≤ 4 + piled ts := by
  cases ts with
  | nil => decide +kernel
  | cons t r =>
    have e1 : (listText (t :: r)).length = (textFrom 0 "[" (t :: r)).length + 1 := by
      show (textFrom 0 "[" (t :: r) ++ "]").length = _
      rw [strLen_append]; rfl
    have e2 : textFrom 0 "[" (t :: r) = textFrom 1 (("[" : Str) ++ (if 0 > 0 then ", " else "" : String) ++ t) r := rfl
    have e3 : ((("[" : Str) ++ (if 0 > 0 then ", " else "" : String) ++ t) : Str).length = 1 + t.length := by
      rw [strLen_append, strLen_append]; rfl
    rw [e1, e2, textFrom_length_pos _ _ _ (by decide), e3, piled_cons]
    omega
theorem piled_tuple (ts : List Str) : (tupleText ts).length ≤ 4 + piled ts := by
  cases ts with
  | nil => decide +kernel
  | cons t r =>
    have e := join_length_add (t :: r) (fun z => nomatch z)
    unfold tupleText
    rw [strLen_append, strLen_append]
    have e1 : ((("(" : String) : Str)).length = 1 := rfl
    have e3 : (((if (t :: r).length == 1 then ",)" else ")" : String) : Str)).length ≤ 2 := by split <;> decide
    omega
mutual
theorem shown_le : ∀ d : PyData, d.showable = true → d.hasDict = false → d.shown.length ≤ wt d
  | .none, _, _ => by show (("None" : String) : Str).length ≤ 8; decide
  | .bool b, _, _ => by cases b <;> (show Str.length _ ≤ 8; decide)
  | .int i, h, _ => by
    have h1 : i.natAbs.log2 < 1920 := of_decide_eq_true h
    have e := int_text_length_le (k := 1920) (by decide) h1
    show (Str.ofString (toString i)).length ≤ 2000
    rw [PySem.ofString_length]; omega
  | .str x, _, _ => Nat.le_refl _
  | .list xs, h, hd => by
    have e := shownAll_le xs (by simpa [PyData.showable] using h) (by simpa [PyData.hasDict] using hd)
    have e2 := piled_list (PyData.shownAll xs)
    show (listText (PyData.shownAll xs)).length ≤ 4 + wtAll xs
    omega
  | .tuple xs, h, hd => by
    have e := shownAll_le xs (by simpa [PyData.showable] using h) (by simpa [PyData.hasDict] using hd)
    have e2 := piled_tuple (PyData.shownAll xs)
    show (tupleText (PyData.shownAll xs)).length ≤ 4 + wtAll xs
    omega
  | .dict _, _, hd => by simp [PyData.hasDict] at hd
theorem shownAll_le : ∀ ds : List PyData, PyData.showableAll ds = true → PyData.hasDictAll ds = false → piled (PyData.shownAll ds) ≤ wtAll ds
  | [], _, _ => Nat.le_refl _
  | d :: ds, h, hd => by
    have h' : d.showable = true ∧ PyData.showableAll ds = true := by simpa [PyData.showableAll] using h
    have hd' : d.hasDict = false ∧ PyData.hasDictAll ds = false := by simpa [PyData.hasDictAll] using hd
    have e1 := shown_le d h'.1 hd'.1
    have e2 := shownAll_le ds h'.2 hd'.2
    show piled (d.shown :: PyData.shownAll ds) ≤ wt d + 2 + wtAll ds
    rw [piled_cons]
    omega
end
theorem reprOk_of {d : PyData} (h1 : d.showable = true) (h2 : d.hasDict = false) (h3 : d.depth ≤ 64) (h4 : wt d ≤ 16777216) : reprOk d = true := by
  unfold reprOk
  have := shown_le d h1 h2
  rw [h1, h2, Bool.true_and]
  show (decide (d.depth ≤ 64) && decide (d.shown.length ≤ LIM)) = true
  rw [Bool.and_eq_true]
  exact ⟨decide_eq_true h3, decide_eq_true (show d.shown.length ≤ 16777216 by omega)⟩
theorem repr_dat {d : PyData} {s : Sx} (h : reprOk d = true) : gRepr (.dat d) s = some (.dat (.str d.shown), s) := if_pos h
theorem repr_own {d : List PyData} {s : Sx} (h : reprOk (.list d) = true) : gRepr (.own d) s = some (.dat (.str (PyData.shown (.list d))), s) := if_pos h
end Fe

namespace K80
open PySem PySem.Spec PyProof.Rows L2 Fe
def top (i : Nat) : Stmt := PySem.Challenge.pw_formspaces_k80_whole_main_squares_summed.main.body.getD i (.Pass ⟨0, 0, 0, 0⟩)
abbrev s_power := top 5
abbrev s_power_left := top 6
abbrev s_square_sign := top 7
abbrev s_squares_kind := top 8
abbrev s_squares_ways := top 9
abbrev s_squares_rows := top 10
abbrev s_least_squares := top 11
abbrev s_least_nought_squares := top 12
abbrev s__law_pot := top 14
abbrev s__law_draw := top 15
abbrev s__law_pick := top 16
abbrev s__law_all_rows := top 17
abbrev s__law_power := top 18
abbrev s__law_told := top 19
abbrev s__law_summed := top 20
abbrev s__law_sign := top 21
abbrev s__law_remainder := top 22
abbrev s__law_ways := top 23
abbrev s__law_is_asked := top 24
abbrev s_law := top 25
structure En (P : Program) (K : PySem.W.Frag) (mg : Str → Option Value) where
  a_power : Addr
  f_power : FuncData
  d_power : FunD K "power" "power" (defArgs s_power) (defBody s_power) (defScope s_power) [] [] a_power f_power
  m_power : mg "power" = some (.ref a_power)
  k_power : PySem.W.keepIn K (.ref a_power) = true
  a_power_left : Addr
  f_power_left : FuncData
  d_power_left : FunD K "power_left" "power_left" (defArgs s_power_left) (defBody s_power_left) (defScope s_power_left) [] [] a_power_left f_power_left
  m_power_left : mg "power_left" = some (.ref a_power_left)
  k_power_left : PySem.W.keepIn K (.ref a_power_left) = true
  a_square_sign : Addr
  f_square_sign : FuncData
  d_square_sign : FunD K "square_sign" "square_sign" (defArgs s_square_sign) (defBody s_square_sign) (defScope s_square_sign) [] [] a_square_sign f_square_sign
  m_square_sign : mg "square_sign" = some (.ref a_square_sign)
  k_square_sign : PySem.W.keepIn K (.ref a_square_sign) = true
  a_squares_kind : Addr
  f_squares_kind : FuncData
  d_squares_kind : FunD K "squares_kind" "squares_kind" (defArgs s_squares_kind) (defBody s_squares_kind) (defScope s_squares_kind) [] [] a_squares_kind f_squares_kind
  m_squares_kind : mg "squares_kind" = some (.ref a_squares_kind)
  k_squares_kind : PySem.W.keepIn K (.ref a_squares_kind) = true
  a_squares_ways : Addr
  f_squares_ways : FuncData
  d_squares_ways : FunD K "squares_ways" "squares_ways" (defArgs s_squares_ways) (defBody s_squares_ways) (defScope s_squares_ways) [] [] a_squares_ways f_squares_ways
  m_squares_ways : mg "squares_ways" = some (.ref a_squares_ways)
  k_squares_ways : PySem.W.keepIn K (.ref a_squares_ways) = true
  a_squares_rows : Addr
  f_squares_rows : FuncData
  d_squares_rows : FunD K "squares_rows" "squares_rows" (defArgs s_squares_rows) (defBody s_squares_rows) (defScope s_squares_rows) [] [] a_squares_rows f_squares_rows
  m_squares_rows : mg "squares_rows" = some (.ref a_squares_rows)
  k_squares_rows : PySem.W.keepIn K (.ref a_squares_rows) = true
  a_least_squares : Addr
  f_least_squares : FuncData
  d_least_squares : FunD K "least_squares" "least_squares" (defArgs s_least_squares) (defBody s_least_squares) (defScope s_least_squares) [] [] a_least_squares f_least_squares
  m_least_squares : mg "least_squares" = some (.ref a_least_squares)
  k_least_squares : PySem.W.keepIn K (.ref a_least_squares) = true
  a_least_nought_squares : Addr
  f_least_nought_squares : FuncData
  d_least_nought_squares : FunD K "least_nought_squares" "least_nought_squares" (defArgs s_least_nought_squares) (defBody s_least_nought_squares) (defScope s_least_nought_squares) [] [] a_least_nought_squares f_least_nought_squares
  m_least_nought_squares : mg "least_nought_squares" = some (.ref a_least_nought_squares)
  k_least_nought_squares : PySem.W.keepIn K (.ref a_least_nought_squares) = true
  a__law_pot : Addr
  f__law_pot : FuncData
  d__law_pot : FunD K "_law_pot" "_law_pot" (defArgs s__law_pot) (defBody s__law_pot) (defScope s__law_pot) [] [] a__law_pot f__law_pot
  m__law_pot : mg "_law_pot" = some (.ref a__law_pot)
  k__law_pot : PySem.W.keepIn K (.ref a__law_pot) = true
  a__law_draw : Addr
  f__law_draw : FuncData
  d__law_draw : FunD K "_law_draw" "_law_draw" (defArgs s__law_draw) (defBody s__law_draw) (defScope s__law_draw) [] [] a__law_draw f__law_draw
  m__law_draw : mg "_law_draw" = some (.ref a__law_draw)
  k__law_draw : PySem.W.keepIn K (.ref a__law_draw) = true
  a__law_pick : Addr
  f__law_pick : FuncData
  d__law_pick : FunD K "_law_pick" "_law_pick" (defArgs s__law_pick) (defBody s__law_pick) (defScope s__law_pick) [] [] a__law_pick f__law_pick
  m__law_pick : mg "_law_pick" = some (.ref a__law_pick)
  k__law_pick : PySem.W.keepIn K (.ref a__law_pick) = true
  a__law_all_rows : Addr
  f__law_all_rows : FuncData
  d__law_all_rows : FunD K "_law_all_rows" "_law_all_rows" (defArgs s__law_all_rows) (defBody s__law_all_rows) (defScope s__law_all_rows) [] [] a__law_all_rows f__law_all_rows
  m__law_all_rows : mg "_law_all_rows" = some (.ref a__law_all_rows)
  k__law_all_rows : PySem.W.keepIn K (.ref a__law_all_rows) = true
  a__law_power : Addr
  f__law_power : FuncData
  d__law_power : FunD K "_law_power" "_law_power" (defArgs s__law_power) (defBody s__law_power) (defScope s__law_power) [] [] a__law_power f__law_power
  m__law_power : mg "_law_power" = some (.ref a__law_power)
  k__law_power : PySem.W.keepIn K (.ref a__law_power) = true
  a__law_told : Addr
  f__law_told : FuncData
  d__law_told : FunD K "_law_told" "_law_told" (defArgs s__law_told) (defBody s__law_told) (defScope s__law_told) [] [] a__law_told f__law_told
  m__law_told : mg "_law_told" = some (.ref a__law_told)
  k__law_told : PySem.W.keepIn K (.ref a__law_told) = true
  a__law_summed : Addr
  f__law_summed : FuncData
  d__law_summed : FunD K "_law_summed" "_law_summed" (defArgs s__law_summed) (defBody s__law_summed) (defScope s__law_summed) [] [] a__law_summed f__law_summed
  m__law_summed : mg "_law_summed" = some (.ref a__law_summed)
  k__law_summed : PySem.W.keepIn K (.ref a__law_summed) = true
  a__law_sign : Addr
  f__law_sign : FuncData
  d__law_sign : FunD K "_law_sign" "_law_sign" (defArgs s__law_sign) (defBody s__law_sign) (defScope s__law_sign) [] [] a__law_sign f__law_sign
  m__law_sign : mg "_law_sign" = some (.ref a__law_sign)
  k__law_sign : PySem.W.keepIn K (.ref a__law_sign) = true
  a__law_remainder : Addr
  f__law_remainder : FuncData
  d__law_remainder : FunD K "_law_remainder" "_law_remainder" (defArgs s__law_remainder) (defBody s__law_remainder) (defScope s__law_remainder) [] [] a__law_remainder f__law_remainder
  m__law_remainder : mg "_law_remainder" = some (.ref a__law_remainder)
  k__law_remainder : PySem.W.keepIn K (.ref a__law_remainder) = true
  a__law_ways : Addr
  f__law_ways : FuncData
  d__law_ways : FunD K "_law_ways" "_law_ways" (defArgs s__law_ways) (defBody s__law_ways) (defScope s__law_ways) [] [] a__law_ways f__law_ways
  m__law_ways : mg "_law_ways" = some (.ref a__law_ways)
  k__law_ways : PySem.W.keepIn K (.ref a__law_ways) = true
  a__law_is_asked : Addr
  f__law_is_asked : FuncData
  d__law_is_asked : FunD K "_law_is_asked" "_law_is_asked" (defArgs s__law_is_asked) (defBody s__law_is_asked) (defScope s__law_is_asked) [] [] a__law_is_asked f__law_is_asked
  m__law_is_asked : mg "_law_is_asked" = some (.ref a__law_is_asked)
  k__law_is_asked : PySem.W.keepIn K (.ref a__law_is_asked) = true
  a_law : Addr
  f_law : FuncData
  d_law : FunD K "law" "law" (defArgs s_law) (defBody s_law) (defScope s_law) [] [] a_law f_law
  m_law : mg "law" = some (.ref a_law)
  k_law : PySem.W.keepIn K (.ref a_law) = true
  c_SpaceError : Addr
  mc_SpaceError : mg "SpaceError" = some (.ref c_SpaceError)
  c_TooMany : Addr
  mc_TooMany : mg "TooMany" = some (.ref c_TooMany)
  ci_TooMany : Addr
  cf_TooMany : FuncData
  cs_TooMany : SupC P K c_TooMany ci_TooMany cf_TooMany "limit" "limit"
  kt_TooMany_SpaceError : PySem.W.exmOne K (.ref c_TooMany) (.ref c_SpaceError) = some true
  n_ValueError : mg "ValueError" = none
  n_abs : mg "abs" = none
  n_enumerate : mg "enumerate" = none
  n_int : mg "int" = none
  n_isinstance : mg "isinstance" = none
  n_len : mg "len" = none
  n_range : mg "range" = none
  n_repr : mg "repr" = none
  n_sum : mg "sum" = none
  n_super : mg "super" = none
  n_tuple : mg "tuple" = none
  g_MAX_ROWS : ∃ t, mg "MAX_ROWS" = some (.int 3000 t)
section
variable {P : Program} {w : World} {K : PySem.W.Frag} {mg : Str → Option Value} {base : Heap}
abbrev n_power : List Str := ["number", "often", "found", "step"]
theorem sc_power : FnScope n_power ["number", "often"] (defScope s_power) := ⟨rfl, rfl, rfl, by decide +kernel, rfl, by decide +kernel, by decide +kernel⟩
def m_power : Sx → Res Fl := (mSeq (mSet 2 (mC (.int 1)))
  (mSeq (mFor (mRng rg1 (mCons (mFrz (mVar 1)) mNil)) (stv 3) (mSet 2 (mOp gMulI (mVar 2) (mVar 0))))
  (mRet (mVar 2))))
def F_power : Mir := runF 2 2 m_power
theorem b_power (E : En P K mg) {f cdv A outer z H X} (B : Bd (cxB P w K mg base n_power "power" s_power f cdv A outer z H X) (Wof X) 0) :
    FSs (cxB P w K mg base n_power "power" s_power f cdv A outer z H X) (Wof X) (defBody s_power) m_power :=
  (fss_cons (fs_set 2 sc_power.nd fe_int)
  (fss_cons (fs_for B.pass rfl (fi_rng1 E.n_range (fa_cons (fe_var 1).frz fa_nil)) (fg_name (vs := [3]) 3 sc_power.nd) (fss_one (fs_set 2 sc_power.nd (fe_op op_mulA v2_mulI (fe_var 2) (fe_var 0)))))
  (fss_one (fs_ret (fe_var 2)))))
theorem ok_power (E : En P K mg) : FnG P w K mg base 1 E.a_power E.f_power ["number", "often"] (SpF ⟨K, mg⟩ 2 F_power) := fn_mir E.d_power sc_power fun _ _ _ _ _ _ B => b_power E B
theorem bn_power (E : En P K mg) : Binds K E.f_power ["number", "often"] [] := E.d_power.bindsN fun _ _ _ _ _ _ us hl => match us, hl with | [_, _], _ => rfl
abbrev n_power_left : List Str := ["p", "number", "often", "found", "base"]
theorem sc_power_left : FnScope n_power_left ["p", "number", "often"] (defScope s_power_left) := ⟨rfl, rfl, rfl, by decide +kernel, rfl, by decide +kernel, by decide +kernel⟩
def m_power_left : Sx → Res Fl := (mSeq (mPar2 3 4 (mCons (mC (.int 1)) (mCons (mOp gMod (mVar 1) (mVar 0)) mNil)))
  (mSeq (wloop (mTest (mOp gGt (mVar 2) (mC (.int 0)))) (mSeq (mIfS (mTest (mOp gEqA (mOp gMod (mVar 2) (mC (.int 2))) (mC (.int 1)))) (mSet 3 (mOp gMod (mOp gMulI (mVar 3) (mVar 4)) (mVar 0))) mNext)
  (mPar2 4 2 (mCons (mOp gMod (mOp gMulI (mVar 4) (mVar 4)) (mVar 0)) (mCons (mOp gDiv (mVar 2) (mC (.int 2))) mNil)))) 64)
  (mRet (mVar 3))))
def F_power_left : Mir := runF 3 2 m_power_left
theorem b_power_left (E : En P K mg) {f cdv A outer z H X} (B : Bd (cxB P w K mg base n_power_left "power_left" s_power_left f cdv A outer z H X) (Wof X) 0) :
    FSs (cxB P w K mg base n_power_left "power_left" s_power_left f cdv A outer z H X) (Wof X) (defBody s_power_left) m_power_left :=
  (fss_cons (fs_par2 3 4 rfl sc_power_left.nd (fa_cons fe_int (fa_cons (fe_op op_mod v2_mod (fe_var 1) (fe_var 0)) fa_nil)))
  (fss_cons (fs_while 64 B.pass (ft_cmp op_gt v2_gt (fe_var 2) fe_int) (fss_cons (fs_if (ft_cmp (op_eqA B.room.units) v2_eqA (fe_op op_mod v2_mod (fe_var 2) fe_int) fe_int) (fss_one (fs_set 3 sc_power_left.nd (fe_op op_mod v2_mod (fe_op op_mulA v2_mulI (fe_var 3) (fe_var 4)) (fe_var 0)))) fss_nil)
  (fss_one (fs_par2 4 2 rfl sc_power_left.nd (fa_cons (fe_op op_mod v2_mod (fe_op op_mulA v2_mulI (fe_var 4) (fe_var 4)) (fe_var 0)) (fa_cons (fe_op op_fdivW v2_div (fe_var 2) fe_int) fa_nil))))))
  (fss_one (fs_ret (fe_var 3)))))
theorem ok_power_left (E : En P K mg) : FnG P w K mg base 1 E.a_power_left E.f_power_left ["p", "number", "often"] (SpF ⟨K, mg⟩ 3 F_power_left) := fn_mir E.d_power_left sc_power_left fun _ _ _ _ _ _ B => b_power_left E B
theorem bn_power_left (E : En P K mg) : Binds K E.f_power_left ["p", "number", "often"] [] := E.d_power_left.bindsN fun _ _ _ _ _ _ us hl => match us, hl with | [_, _, _], _ => rfl
abbrev n_square_sign : List Str := ["p", "number"]
theorem sc_square_sign : FnScope n_square_sign ["p", "number"] (defScope s_square_sign) := ⟨rfl, rfl, rfl, by decide +kernel, rfl, by decide +kernel, by decide +kernel⟩
def m_square_sign : Sx → Res Fl := (mSeq (mIfS (mTest (mOp gEqA (mOp gMod (mVar 1) (mVar 0)) (mC (.int 0)))) (mRet (mC (.int 0))) mNext)
  (mRet (mIf (mTest (mOp gEqA (mCall 3 F_power_left (mCons (mFrz (mVar 0)) (mCons (mFrz (mVar 1)) (mCons (mFrz (mOp gDiv (mOp gSub (mVar 0) (mC (.int 1))) (mC (.int 2)))) mNil)))) (mC (.int 1)))) (mC (.int 1)) (mUn gNeg (mC (.int 1))))))
def F_square_sign : Mir := runF 2 0 m_square_sign
theorem b_square_sign (E : En P K mg) {f cdv A outer z H X} (B : Bd (cxB P w K mg base n_square_sign "square_sign" s_square_sign f cdv A outer z H X) (Wof X) 1) :
    FSs (cxB P w K mg base n_square_sign "square_sign" s_square_sign f cdv A outer z H X) (Wof X) (defBody s_square_sign) m_square_sign :=
  (fss_cons (fs_if (ft_cmp (op_eqA B.room.units) v2_eqA (fe_op op_mod v2_mod (fe_var 1) (fe_var 0)) fe_int) (fss_one (fs_ret fe_int)) fss_nil)
  (fss_one (fs_ret (fe_if (ft_cmp (op_eqA B.room.units) v2_eqA (fe_call (ok_power_left E) B.gd (B.room.mono (by decide)) B.tk E.m_power_left E.k_power_left (bn_power_left E) (fa_cons (fe_var 0).frz (fa_cons (fe_var 1).frz (fa_cons (FE.frz (fe_op op_fdivW v2_div (fe_op op_sub v2_sub (fe_var 0) fe_int) fe_int)) fa_nil)))) fe_int) fe_int (fe_un un_neg v1_neg fe_int)))))
theorem ok_square_sign (E : En P K mg) : FnG P w K mg base 2 E.a_square_sign E.f_square_sign ["p", "number"] (SpF ⟨K, mg⟩ 2 F_square_sign) := fn_mir E.d_square_sign sc_square_sign fun _ _ _ _ _ _ B => b_square_sign E B
theorem bn_square_sign (E : En P K mg) : Binds K E.f_square_sign ["p", "number"] [] := E.d_square_sign.bindsN fun _ _ _ _ _ _ us hl => match us, hl with | [_, _], _ => rfl
abbrev n_squares_kind : List Str := ["p", "k"]
theorem sc_squares_kind : FnScope n_squares_kind ["p", "k"] (defScope s_squares_kind) := ⟨rfl, rfl, rfl, by decide +kernel, rfl, by decide +kernel, by decide +kernel⟩
def m_squares_kind : Sx → Res Fl := (mSeq (mIfS (mTest (mOp gEqA (mVar 1) (mC (.int 0)))) (mRet (mTup (mCons (mC (.int 0)) (mCons (mC (.int 1)) mNil)))) mNext)
  (mSeq (mIfS (mTest (mOp gEqA (mVar 0) (mC (.int 2)))) (mRet (mTup (mCons (mC (.int 1)) (mCons (mC (.int 0)) mNil)))) mNext)
  (mRet (mTup (mCons (mFrz (mVar 1)) (mCons (mFrz (mIf (mOr (mTest (mOp gEqA (mOp gMod (mVar 0) (mC (.int 4))) (mC (.int 1)))) (mTest (mOp gEqA (mOp gMod (mOp gDiv (mVar 1) (mC (.int 2))) (mC (.int 2))) (mC (.int 0))))) (mC (.int 1)) (mUn gNeg (mC (.int 1))))) mNil))))))
def F_squares_kind : Mir := runF 2 0 m_squares_kind
theorem b_squares_kind (E : En P K mg) {f cdv A outer z H X} (B : Bd (cxB P w K mg base n_squares_kind "squares_kind" s_squares_kind f cdv A outer z H X) (Wof X) 0) :
    FSs (cxB P w K mg base n_squares_kind "squares_kind" s_squares_kind f cdv A outer z H X) (Wof X) (defBody s_squares_kind) m_squares_kind :=
  (fss_cons (fs_if (ft_cmp (op_eqA B.room.units) v2_eqA (fe_var 1) fe_int) (fss_one (fs_ret (fe_tup (fa_cons fe_int (fa_cons fe_int fa_nil))))) fss_nil)
  (fss_cons (fs_if (ft_cmp (op_eqA B.room.units) v2_eqA (fe_var 0) fe_int) (fss_one (fs_ret (fe_tup (fa_cons fe_int (fa_cons fe_int fa_nil))))) fss_nil)
  (fss_one (fs_ret (fe_tup (fa_cons (fe_var 1).frz (fa_cons (FE.frz (fe_if (fw_or (ft_cmp (op_eqA B.room.units) v2_eqA (fe_op op_mod v2_mod (fe_var 0) fe_int) fe_int) (fw_one_or (ft_cmp (op_eqA B.room.units) v2_eqA (fe_op op_mod v2_mod (fe_op op_fdivW v2_div (fe_var 1) fe_int) fe_int) fe_int))).t fe_int (fe_un un_neg v1_neg fe_int))) fa_nil)))))))
theorem ok_squares_kind (E : En P K mg) : FnG P w K mg base 1 E.a_squares_kind E.f_squares_kind ["p", "k"] (SpF ⟨K, mg⟩ 2 F_squares_kind) := fn_mir E.d_squares_kind sc_squares_kind fun _ _ _ _ _ _ B => b_squares_kind E B
theorem bn_squares_kind (E : En P K mg) : Binds K E.f_squares_kind ["p", "k"] [] := E.d_squares_kind.bindsN fun _ _ _ _ _ _ us hl => match us, hl with | [_, _], _ => rfl
theorem kb_squares_kind_0_k_p (E : En P K mg) : KBp K E.f_squares_kind ["p", "k"] 0 ["k", "p"] [1, 0] := FunD.kbp E.d_squares_kind 0 [1, 0] fun _ _ _ _ _ _ us ws h1 h2 => match us, ws, h1, h2 with | [], [_, _], _, _ => rfl
abbrev n_squares_ways : List Str := ["p", "k", "number", "m", "turn"]
theorem sc_squares_ways : FnScope n_squares_ways ["p", "k", "number"] (defScope s_squares_ways) := ⟨rfl, rfl, rfl, by decide +kernel, rfl, by decide +kernel, by decide +kernel⟩
def m_squares_ways : Sx → Res Fl := (mSeq (mIfS (mTest (mOp gEqA (mVar 1) (mC (.int 0)))) (mRet (mFn (g1 gInt) (mCons (mOp gEqA (mVar 2) (mC (.int 0))) mNil))) mNext)
  (mSeq (mIfS (mTest (mOp gEqA (mVar 0) (mC (.int 2)))) (mRet (mCall 2 F_power (mCons (mC (.int 2)) (mCons (mFrz (mOp gSub (mVar 1) (mC (.int 1)))) mNil)))) mNext)
  (mSeq (mSet 3 (mOp gDiv (mVar 1) (mC (.int 2))))
  (mSeq (mSet 4 (mFrz (mIf (mTest (mOp gEqA (mOp gMod (mVar 3) (mC (.int 2))) (mC (.int 1)))) (mCall 2 F_square_sign (mCons (mFrz (mVar 0)) (mCons (mUn gNeg (mC (.int 1))) mNil))) (mC (.int 1)))))
  (mSeq (mIfS (mTest (mOp gEqA (mOp gMod (mVar 1) (mC (.int 2))) (mC (.int 1)))) (mRet (mOp gAdd (mCall 2 F_power (mCons (mFrz (mVar 0)) (mCons (mFrz (mOp gSub (mVar 1) (mC (.int 1)))) mNil))) (mOp gMulI (mOp gMulI (mVar 4) (mCall 2 F_square_sign (mCons (mFrz (mVar 0)) (mCons (mFrz (mVar 2)) mNil)))) (mCall 2 F_power (mCons (mFrz (mVar 0)) (mCons (mFrz (mVar 3)) mNil)))))) mNext)
  (mSeq (mIfS (mTest (mOp gEqA (mVar 2) (mC (.int 0)))) (mRet (mOp gAdd (mCall 2 F_power (mCons (mFrz (mVar 0)) (mCons (mFrz (mOp gSub (mVar 1) (mC (.int 1)))) mNil))) (mOp gMulI (mVar 4) (mOp gSub (mCall 2 F_power (mCons (mFrz (mVar 0)) (mCons (mFrz (mVar 3)) mNil))) (mCall 2 F_power (mCons (mFrz (mVar 0)) (mCons (mFrz (mOp gSub (mVar 3) (mC (.int 1)))) mNil))))))) mNext)
  (mRet (mOp gSub (mCall 2 F_power (mCons (mFrz (mVar 0)) (mCons (mFrz (mOp gSub (mVar 1) (mC (.int 1)))) mNil))) (mOp gMulI (mVar 4) (mCall 2 F_power (mCons (mFrz (mVar 0)) (mCons (mFrz (mOp gSub (mVar 3) (mC (.int 1)))) mNil))))))))))))
def F_squares_ways : Mir := runF 3 2 m_squares_ways
theorem b_squares_ways (E : En P K mg) {f cdv A outer z H X} (B : Bd (cxB P w K mg base n_squares_ways "squares_ways" s_squares_ways f cdv A outer z H X) (Wof X) 2) :
    FSs (cxB P w K mg base n_squares_ways "squares_ways" s_squares_ways f cdv A outer z H X) (Wof X) (defBody s_squares_ways) m_squares_ways :=
  (fss_cons (fs_if (ft_cmp (op_eqA B.room.units) v2_eqA (fe_var 1) fe_int) (fss_one (fs_ret (fe_ty call_int1 v_int E.n_int (fa_cons (fe_cmp (op_eqA B.room.units) v2_eqA (fe_var 2) fe_int) fa_nil)))) fss_nil)
  (fss_cons (fs_if (ft_cmp (op_eqA B.room.units) v2_eqA (fe_var 0) fe_int) (fss_one (fs_ret (fe_call (ok_power E) B.gd (B.room.mono (by decide)) B.tk E.m_power E.k_power (bn_power E) (fa_cons fe_int (fa_cons (FE.frz (fe_op op_sub v2_sub (fe_var 1) fe_int)) fa_nil))))) fss_nil)
  (fss_cons (fs_set 3 sc_squares_ways.nd (fe_op op_fdivW v2_div (fe_var 1) fe_int))
  (fss_cons (fs_set 4 sc_squares_ways.nd (FE.frz (fe_if (ft_cmp (op_eqA B.room.units) v2_eqA (fe_op op_mod v2_mod (fe_var 3) fe_int) fe_int) (fe_call (ok_square_sign E) B.gd (B.room.mono (by decide)) B.tk E.m_square_sign E.k_square_sign (bn_square_sign E) (fa_cons (fe_var 0).frz (fa_cons (fe_un un_neg v1_neg fe_int) fa_nil))) fe_int)))
  (fss_cons (fs_if (ft_cmp (op_eqA B.room.units) v2_eqA (fe_op op_mod v2_mod (fe_var 1) fe_int) fe_int) (fss_one (fs_ret (fe_op op_addA v2_add (fe_call (ok_power E) B.gd (B.room.mono (by decide)) B.tk E.m_power E.k_power (bn_power E) (fa_cons (fe_var 0).frz (fa_cons (FE.frz (fe_op op_sub v2_sub (fe_var 1) fe_int)) fa_nil))) (fe_op op_mulA v2_mulI (fe_op op_mulA v2_mulI (fe_var 4) (fe_call (ok_square_sign E) B.gd (B.room.mono (by decide)) B.tk E.m_square_sign E.k_square_sign (bn_square_sign E) (fa_cons (fe_var 0).frz (fa_cons (fe_var 2).frz fa_nil)))) (fe_call (ok_power E) B.gd (B.room.mono (by decide)) B.tk E.m_power E.k_power (bn_power E) (fa_cons (fe_var 0).frz (fa_cons (fe_var 3).frz fa_nil))))))) fss_nil)
  (fss_cons (fs_if (ft_cmp (op_eqA B.room.units) v2_eqA (fe_var 2) fe_int) (fss_one (fs_ret (fe_op op_addA v2_add (fe_call (ok_power E) B.gd (B.room.mono (by decide)) B.tk E.m_power E.k_power (bn_power E) (fa_cons (fe_var 0).frz (fa_cons (FE.frz (fe_op op_sub v2_sub (fe_var 1) fe_int)) fa_nil))) (fe_op op_mulA v2_mulI (fe_var 4) (fe_op op_sub v2_sub (fe_call (ok_power E) B.gd (B.room.mono (by decide)) B.tk E.m_power E.k_power (bn_power E) (fa_cons (fe_var 0).frz (fa_cons (fe_var 3).frz fa_nil))) (fe_call (ok_power E) B.gd (B.room.mono (by decide)) B.tk E.m_power E.k_power (bn_power E) (fa_cons (fe_var 0).frz (fa_cons (FE.frz (fe_op op_sub v2_sub (fe_var 3) fe_int)) fa_nil)))))))) fss_nil)
  (fss_one (fs_ret (fe_op op_sub v2_sub (fe_call (ok_power E) B.gd (B.room.mono (by decide)) B.tk E.m_power E.k_power (bn_power E) (fa_cons (fe_var 0).frz (fa_cons (FE.frz (fe_op op_sub v2_sub (fe_var 1) fe_int)) fa_nil))) (fe_op op_mulA v2_mulI (fe_var 4) (fe_call (ok_power E) B.gd (B.room.mono (by decide)) B.tk E.m_power E.k_power (bn_power E) (fa_cons (fe_var 0).frz (fa_cons (FE.frz (fe_op op_sub v2_sub (fe_var 3) fe_int)) fa_nil)))))))))))))
theorem ok_squares_ways (E : En P K mg) : FnG P w K mg base 3 E.a_squares_ways E.f_squares_ways ["p", "k", "number"] (SpF ⟨K, mg⟩ 3 F_squares_ways) := fn_mir E.d_squares_ways sc_squares_ways fun _ _ _ _ _ _ B => b_squares_ways E B
theorem bn_squares_ways (E : En P K mg) : Binds K E.f_squares_ways ["p", "k", "number"] [] := E.d_squares_ways.bindsN fun _ _ _ _ _ _ us hl => match us, hl with | [_, _, _], _ => rfl
theorem kb_squares_ways_0_number_k_p (E : En P K mg) : KBp K E.f_squares_ways ["p", "k", "number"] 0 ["number", "k", "p"] [2, 1, 0] := FunD.kbp E.d_squares_ways 0 [2, 1, 0] fun _ _ _ _ _ _ us ws h1 h2 => match us, ws, h1, h2 with | [], [_, _, _], _, _ => rfl
abbrev n_squares_rows : List Str := ["p", "k", "number", "found", "step", "longer", "row", "item"]
theorem sc_squares_rows : FnScope n_squares_rows ["p", "k", "number"] (defScope s_squares_rows) := ⟨rfl, rfl, rfl, by decide +kernel, rfl, by decide +kernel, by decide +kernel⟩
def m_squares_rows : Sx → Res Fl := (mSeq (mIfS (mTest (mOp gGt (mCall 2 F_power (mCons (mFrz (mVar 0)) (mCons (mFrz (mVar 1)) mNil))) (mC (.int 3000)))) (mRaise "TooMany" "limit" (mCons (mC (.int 3000)) mNil)) mNext)
  (mSeq (mSet 3 (mLst (mCons (mTup mNil) mNil)))
  (mSeq (mFor (mRng rg1 (mCons (mFrz (mVar 1)) mNil)) (stv 4) (mSeq (mSet 5 (mLst mNil))
  (mSeq (mFor (mSeqI (mFrz (mVar 3))) (stv 6) (mExpr (mM gExtend (mVar 5) (mCons (mLc [7] (mRng rg1 (mCons (mFrz (mVar 0)) mNil)) (stv 7) mYes (mFrz (mOp gAdd (mVar 6) (mTup (mCons (mFrz (mVar 7)) mNil))))) mNil))))
  (mSet 3 (mFrz (mVar 5))))))
  (mRet (mFn (g1 gTuple) (mCons (mLc [6] (mSeqI (mFrz (mVar 3))) (stv 6) (mTest (mOp gEqA (mOp gMod (mFn (g1 gSum) (mCons (mLc [7] (mSeqI (mFrz (mVar 6))) (stv 7) mYes (mFrz (mOp gMulI (mVar 7) (mVar 7)))) mNil)) (mVar 0)) (mVar 2))) (mFrz (mVar 6))) mNil))))))
def F_squares_rows : Mir := runF 3 5 m_squares_rows
theorem b_squares_rows (E : En P K mg) {f cdv A outer z H X} (B : Bd (cxB P w K mg base n_squares_rows "squares_rows" s_squares_rows f cdv A outer z H X) (Wof X) 2) :
    FSs (cxB P w K mg base n_squares_rows "squares_rows" s_squares_rows f cdv A outer z H X) (Wof X) (defBody s_squares_rows) m_squares_rows :=
  (fss_cons (fs_if (ft_cmp op_gt v2_gt (fe_call (ok_power E) B.gd (B.room.mono (by decide)) B.tk E.m_power E.k_power (bn_power E) (fa_cons (fe_var 0).frz (fa_cons (fe_var 1).frz fa_nil))) (match E.g_MAX_ROWS with | ⟨_, h⟩ => fe_glob (v := .int 3000) (by rfl) h ⟨_, rfl⟩ fun _ => .int _)) (fss_one (fs_raise rfl B.tk E.cs_TooMany.oex E.cs_TooMany.iC E.cs_TooMany.tI (E.cs_TooMany.ini w mg base E.n_super) (B.room.mono (by decide)) E.cs_TooMany.bn passF E.mc_TooMany (fa_cons (match E.g_MAX_ROWS with | ⟨_, h⟩ => fe_glob (v := .int 3000) (by rfl) h ⟨_, rfl⟩ fun _ => .int _) fa_nil))) fss_nil)
  (fss_cons (fs_set 3 sc_squares_rows.nd (fe_lst (fa_cons (fe_tup fa_nil) fa_nil)))
  (fss_cons (fs_for B.pass rfl (fi_rng1 E.n_range (fa_cons (fe_var 1).frz fa_nil)) (fg_name (vs := [4]) 4 sc_squares_rows.nd) (fss_cons (fs_set 5 sc_squares_rows.nd (fe_lst fa_nil))
  (fss_cons (fs_for B.pass rfl (fi_seq (fe_var 3).frz) (fg_name (vs := [6]) 6 sc_squares_rows.nd) (fss_one (fs_expr (fe_bmL PySem.F.slot_list_extend PySem.F.type_list_extend mt_extend v_extend (fe_var 5) (fa_cons (fe_lc (own := [("item", 7)]) rfl sc_squares_rows.nd (fi_rng1 E.n_range (fa_cons (fe_var 0).frz fa_nil)) (blkOk_by (by kernel_rfl)) (fun _ _ _ _ _ => (fg_name (vs := [7]) 7 sc_squares_rows.nd)) (fun _ _ _ _ _ => fts_nil) (fun _ _ _ _ _ => (FE.frz (fe_op op_addA v2_add (fe_var 6) (fe_tup (fa_cons (fe_var 7).frz fa_nil)))))) fa_nil)))))
  (fss_one (fs_set 3 sc_squares_rows.nd (fe_var 5).frz)))))
  (fss_one (fs_ret (fe_ty call_tuple_of v_tuple E.n_tuple (fa_cons (fe_lc (own := [("row", 6)]) rfl sc_squares_rows.nd (fi_seq (fe_var 3).frz) (blkOk_by (by kernel_rfl)) (fun _ _ _ _ _ => (fg_name (vs := [6]) 6 sc_squares_rows.nd)) (fun _ _ _ _ _ => (fts_one (ft_cmp (op_eqA B.room.units) v2_eqA (fe_op op_mod v2_mod (fe_fn (cr_sum rfl) v_sum E.n_sum (fa_cons (fe_lc (own := [("item", 7)]) rfl sc_squares_rows.nd (fi_seq (fe_var 6).frz) (blkOk_by (by kernel_rfl)) (fun _ _ _ _ _ => (fg_name (vs := [7]) 7 sc_squares_rows.nd)) (fun _ _ _ _ _ => fts_nil) (fun _ _ _ _ _ => (FE.frz (fe_op op_mulA v2_mulI (fe_var 7) (fe_var 7))))) fa_nil)) (fe_var 0)) (fe_var 2)))) (fun _ _ _ _ _ => (fe_var 6).frz)) fa_nil)))))))
theorem ok_squares_rows (E : En P K mg) : FnG P w K mg base 3 E.a_squares_rows E.f_squares_rows ["p", "k", "number"] (SpF ⟨K, mg⟩ 3 F_squares_rows) := fn_mir E.d_squares_rows sc_squares_rows fun _ _ _ _ _ _ B => b_squares_rows E B
theorem bn_squares_rows (E : En P K mg) : Binds K E.f_squares_rows ["p", "k", "number"] [] := E.d_squares_rows.bindsN fun _ _ _ _ _ _ us hl => match us, hl with | [_, _, _], _ => rfl
theorem kb_squares_rows_0_number_k_p (E : En P K mg) : KBp K E.f_squares_rows ["p", "k", "number"] 0 ["number", "k", "p"] [2, 1, 0] := FunD.kbp E.d_squares_rows 0 [2, 1, 0] fun _ _ _ _ _ _ us ws h1 h2 => match us, ws, h1, h2 with | [], [_, _, _], _, _ => rfl
abbrev n_least_squares : List Str := ["p", "number"]
theorem sc_least_squares : FnScope n_least_squares ["p", "number"] (defScope s_least_squares) := ⟨rfl, rfl, rfl, by decide +kernel, rfl, by decide +kernel, by decide +kernel⟩
def m_least_squares : Sx → Res Fl := (mSeq (mIfS (mTest (mOp gEqA (mVar 1) (mC (.int 0)))) (mRet (mC (.int 0))) mNext)
  (mRet (mIf (mOr (mTest (mOp gEqA (mVar 0) (mC (.int 2)))) (mTest (mOp gEqA (mCall 2 F_square_sign (mCons (mFrz (mVar 0)) (mCons (mFrz (mVar 1)) mNil))) (mC (.int 1))))) (mC (.int 1)) (mC (.int 2)))))
def F_least_squares : Mir := runF 2 0 m_least_squares
theorem b_least_squares (E : En P K mg) {f cdv A outer z H X} (B : Bd (cxB P w K mg base n_least_squares "least_squares" s_least_squares f cdv A outer z H X) (Wof X) 2) :
    FSs (cxB P w K mg base n_least_squares "least_squares" s_least_squares f cdv A outer z H X) (Wof X) (defBody s_least_squares) m_least_squares :=
  (fss_cons (fs_if (ft_cmp (op_eqA B.room.units) v2_eqA (fe_var 1) fe_int) (fss_one (fs_ret fe_int)) fss_nil)
  (fss_one (fs_ret (fe_if (fw_or (ft_cmp (op_eqA B.room.units) v2_eqA (fe_var 0) fe_int) (fw_one_or (ft_cmp (op_eqA B.room.units) v2_eqA (fe_call (ok_square_sign E) B.gd (B.room.mono (by decide)) B.tk E.m_square_sign E.k_square_sign (bn_square_sign E) (fa_cons (fe_var 0).frz (fa_cons (fe_var 1).frz fa_nil))) fe_int))).t fe_int fe_int))))
theorem ok_least_squares (E : En P K mg) : FnG P w K mg base 3 E.a_least_squares E.f_least_squares ["p", "number"] (SpF ⟨K, mg⟩ 2 F_least_squares) := fn_mir E.d_least_squares sc_least_squares fun _ _ _ _ _ _ B => b_least_squares E B
theorem bn_least_squares (E : En P K mg) : Binds K E.f_least_squares ["p", "number"] [] := E.d_least_squares.bindsN fun _ _ _ _ _ _ us hl => match us, hl with | [_, _], _ => rfl
theorem kb_least_squares_0_number_p (E : En P K mg) : KBp K E.f_least_squares ["p", "number"] 0 ["number", "p"] [1, 0] := FunD.kbp E.d_least_squares 0 [1, 0] fun _ _ _ _ _ _ us ws h1 h2 => match us, ws, h1, h2 with | [], [_, _], _, _ => rfl
abbrev n_least_nought_squares : List Str := ["p"]
theorem sc_least_nought_squares : FnScope n_least_nought_squares ["p"] (defScope s_least_nought_squares) := ⟨rfl, rfl, rfl, by decide +kernel, rfl, by decide +kernel, by decide +kernel⟩
def m_least_nought_squares : Sx → Res Fl := (mRet (mIf (mOr (mTest (mOp gEqA (mVar 0) (mC (.int 2)))) (mTest (mOp gEqA (mOp gMod (mVar 0) (mC (.int 4))) (mC (.int 1))))) (mC (.int 2)) (mC (.int 3))))
def F_least_nought_squares : Mir := runF 1 0 m_least_nought_squares
theorem b_least_nought_squares (E : En P K mg) {f cdv A outer z H X} (B : Bd (cxB P w K mg base n_least_nought_squares "least_nought_squares" s_least_nought_squares f cdv A outer z H X) (Wof X) 0) :
    FSs (cxB P w K mg base n_least_nought_squares "least_nought_squares" s_least_nought_squares f cdv A outer z H X) (Wof X) (defBody s_least_nought_squares) m_least_nought_squares :=
  (fss_one (fs_ret (fe_if (fw_or (ft_cmp (op_eqA B.room.units) v2_eqA (fe_var 0) fe_int) (fw_one_or (ft_cmp (op_eqA B.room.units) v2_eqA (fe_op op_mod v2_mod (fe_var 0) fe_int) fe_int))).t fe_int fe_int)))
theorem ok_least_nought_squares (E : En P K mg) : FnG P w K mg base 1 E.a_least_nought_squares E.f_least_nought_squares ["p"] (SpF ⟨K, mg⟩ 1 F_least_nought_squares) := fn_mir E.d_least_nought_squares sc_least_nought_squares fun _ _ _ _ _ _ B => b_least_nought_squares E B
theorem bn_least_nought_squares (E : En P K mg) : Binds K E.f_least_nought_squares ["p"] [] := E.d_least_nought_squares.bindsN fun _ _ _ _ _ _ us hl => match us, hl with | [_], _ => rfl
theorem kb_least_nought_squares_0_p (E : En P K mg) : KBp K E.f_least_nought_squares ["p"] 0 ["p"] [0] := FunD.kbp E.d_least_nought_squares 0 [0] fun _ _ _ _ _ _ us ws h1 h2 => match us, ws, h1, h2 with | [], [_], _, _ => rfl
abbrev n__law_pot : List Str := ["script", "cells", "stirred", "cell"]
theorem sc__law_pot : FnScope n__law_pot ["script"] (defScope s__law_pot) := ⟨rfl, rfl, rfl, by decide +kernel, rfl, by decide +kernel, by decide +kernel⟩
def m__law_pot : Sx → Res Fl := (mSeq (mPar2 1 2 (mCons (mLc [3] (mSeqI (mFrz (mSl (mVar 0) mO0 (mO (mC (.int 61)))))) (stv 3) mYes (mFrz (mOp gAdd (mOp gMulI (mC (.int 2)) (mFn (g1 gAbs) (mCons (mVar 3) mNil))) (mFn (g1 gInt) (mCons (mOp gLt (mVar 3) (mC (.int 0))) mNil))))) (mCons (mOp gAdd (mC (.int 17539)) (mOp gMulI (mC (.int 3)) (mFn (g1 gLen) (mCons (mVar 0) mNil)))) mNil)))
  (mSeq (mFor (mSeqI (mFrz (mVar 1))) (stv 3) (mSet 2 (mOp gMod (mFn (g1 gInt) (mCons (mOp gAdd (mOp gAdd (mOp gMulI (mVar 2) (mC (.int 69069))) (mVar 3)) (mC (.int 13))) mNil)) (mC (.int 4294967291)))))
  (mRet (mDic [("great", mObj (mLc [3] (mSeqI (mFrz (mVar 1))) (stv 3) (mTest (mOp gGe (mVar 3) (mOp gPow (mC (.int 10)) (mC (.int 16))))) (mFrz (mVar 3)))), ("stirred", mObj (mVar 2)), ("turn", mObj (mC (.int 0)))]))))
def F__law_pot : Mir := runF 1 3 m__law_pot
theorem b__law_pot (E : En P K mg) {f cdv A outer z H X} (B : Bd (cxB P w K mg base n__law_pot "_law_pot" s__law_pot f cdv A outer z H X) (Wof X) 0) :
    FSs (cxB P w K mg base n__law_pot "_law_pot" s__law_pot f cdv A outer z H X) (Wof X) (defBody s__law_pot) m__law_pot :=
  (fss_cons (fs_par2 1 2 rfl sc__law_pot.nd (fa_cons (fe_lc (own := [("cell", 3)]) rfl sc__law_pot.nd (fi_seq (FE.frz (fe_slice (fe_var 0) fo_none (fo_some fe_int)))) (blkOk_by (by kernel_rfl)) (fun _ _ _ _ _ => (fg_name (vs := [3]) 3 sc__law_pot.nd)) (fun _ _ _ _ _ => fts_nil) (fun _ _ _ _ _ => (FE.frz (fe_op op_addA v2_add (fe_op op_mulA v2_mulI fe_int (fe_fn call_abs v_abs E.n_abs (fa_cons (fe_var 3) fa_nil))) (fe_ty call_int1 v_int E.n_int (fa_cons (fe_cmp op_lt v2_lt (fe_var 3) fe_int) fa_nil)))))) (fa_cons (fe_op op_addA v2_add fe_int (fe_op op_mulA v2_mulI fe_int (fe_fn call_len v_len E.n_len (fa_cons (fe_var 0) fa_nil)))) fa_nil)))
  (fss_cons (fs_for B.pass rfl (fi_seq (fe_var 1).frz) (fg_name (vs := [3]) 3 sc__law_pot.nd) (fss_one (fs_set 2 sc__law_pot.nd (fe_op op_mod v2_mod (fe_ty call_int1 v_int E.n_int (fa_cons (fe_op op_addA v2_add (fe_op op_addA v2_add (fe_op op_mulA v2_mulI (fe_var 2) fe_int) (fe_var 3)) fe_int) fa_nil)) fe_int))))
  (fss_one (fs_ret (fe_dic (fd_cons (FE.obj (fe_lc (own := [("cell", 3)]) rfl sc__law_pot.nd (fi_seq (fe_var 1).frz) (blkOk_by (by kernel_rfl)) (fun _ _ _ _ _ => (fg_name (vs := [3]) 3 sc__law_pot.nd)) (fun _ _ _ _ _ => (fts_one (ft_cmp op_ge v2_ge (fe_var 3) (fe_op op_pow v2_pow fe_int fe_int)))) (fun _ _ _ _ _ => (fe_var 3).frz))) (fd_cons (FE.obj (fe_var 2)) (fd_cons (FE.obj fe_int) fd_nil))))))))
theorem ok__law_pot (E : En P K mg) : FnG P w K mg base 1 E.a__law_pot E.f__law_pot ["script"] (SpF ⟨K, mg⟩ 1 F__law_pot) := fn_mir E.d__law_pot sc__law_pot fun _ _ _ _ _ _ B => b__law_pot E B
theorem bn__law_pot (E : En P K mg) : Binds K E.f__law_pot ["script"] [] := E.d__law_pot.bindsN fun _ _ _ _ _ _ us hl => match us, hl with | [_], _ => rfl
abbrev n__law_draw : List Str := ["pot", "many", "great", "cell", "turn", "shaken"]
theorem sc__law_draw : FnScope n__law_draw ["pot", "many"] (defScope s__law_draw) := ⟨rfl, rfl, rfl, by decide +kernel, rfl, by decide +kernel, by decide +kernel⟩
def m__law_draw : Sx → Res Fl := (mSeq (mSet 2 (mOp gDGet (mVar 0) (mC (.str "great"))))
  (mSeq (mIfS (mTest (mOp gNeA (mVar 2) (mLst mNil))) (mSeq (mSet 3 (mM gPopAt (mVar 2) (mCons (mC (.int 0)) mNil)))
  (mSeq (mIfS (mTest (mOp gGe (mVar 3) (mVar 1))) (mExpr (mM gInsert (mVar 2) (mCons (mC (.int 0)) (mCons (mFrz (mOp gDiv (mVar 3) (mVar 1))) mNil)))) mNext)
  (mRet (mOp gMod (mFn (g1 gInt) (mCons (mVar 3) mNil)) (mVar 1))))) mNext)
  (mSeq (mDPut (mVar 0) (mC (.str "turn")) (mFrz (mOp gAdd (mOp gDGet (mVar 0) (mC (.str "turn"))) (mC (.int 1)))))
  (mSeq (mSet 4 (mOp gDGet (mVar 0) (mC (.str "turn"))))
  (mSeq (mSet 5 (mOp gMod (mFn (g1 gInt) (mCons (mOp gAdd (mOp gAdd (mOp gMulI (mOp gDGet (mVar 0) (mC (.str "stirred"))) (mC (.int 48271))) (mOp gMulI (mOp gMulI (mVar 4) (mVar 4)) (mC (.int 17)))) (mOp gMulI (mC (.int 7919)) (mVar 4))) mNil)) (mC (.int 4294967279))))
  (mSeq (mSet 5 (mOp gMod (mFn (g1 gInt) (mCons (mOp gAdd (mOp gMulI (mVar 5) (mC (.int 69621))) (mOp gDiv (mVar 5) (mC (.int 65536)))) mNil)) (mC (.int 4294967291))))
  (mSeq (mDPut (mVar 0) (mC (.str "stirred")) (mFrz (mVar 5)))
  (mRet (mOp gMod (mFn (g1 gInt) (mCons (mOp gDiv (mVar 5) (mC (.int 1024))) mNil)) (mVar 1))))))))))
def F__law_draw : Mir := runF 2 4 m__law_draw
theorem b__law_draw (E : En P K mg) {f cdv A outer z H X} (B : Bd (cxB P w K mg base n__law_draw "_law_draw" s__law_draw f cdv A outer z H X) (Wof X) 0) :
    FSs (cxB P w K mg base n__law_draw "_law_draw" s__law_draw f cdv A outer z H X) (Wof X) (defBody s__law_draw) m__law_draw :=
  (fss_cons (fs_set 2 sc__law_draw.nd (fe_dget B.room.u1 (fe_var 0) fe_str))
  (fss_cons (fs_if (ft_cmp (op_neA B.room.units) v2_neA (fe_var 2) (fe_lst fa_nil)) (fss_cons (fs_set 3 sc__law_draw.nd (fe_bmL PySem.F.slot_list_pop PySem.F.type_list_pop mt_popAt v_popAt (fe_var 2) (fa_cons fe_int fa_nil)))
  (fss_cons (fs_if (ft_cmp op_ge v2_ge (fe_var 3) (fe_var 1)) (fss_one (fs_expr (fe_bmL PySem.F.slot_list_insert PySem.F.type_list_insert mt_insert v_insert (fe_var 2) (fa_cons fe_int (fa_cons (FE.frz (fe_op op_fdivW v2_div (fe_var 3) (fe_var 1))) fa_nil))))) fss_nil)
  (fss_one (fs_ret (fe_op op_mod v2_mod (fe_ty call_int1 v_int E.n_int (fa_cons (fe_var 3) fa_nil)) (fe_var 1)))))) fss_nil)
  (fss_cons (fs_dput B.room.u1 (fe_var 0) fe_str (FE.frz (fe_op op_addA v2_add (fe_dget B.room.u1 (fe_var 0) fe_str) fe_int)))
  (fss_cons (fs_set 4 sc__law_draw.nd (fe_dget B.room.u1 (fe_var 0) fe_str))
  (fss_cons (fs_set 5 sc__law_draw.nd (fe_op op_mod v2_mod (fe_ty call_int1 v_int E.n_int (fa_cons (fe_op op_addA v2_add (fe_op op_addA v2_add (fe_op op_mulA v2_mulI (fe_dget B.room.u1 (fe_var 0) fe_str) fe_int) (fe_op op_mulA v2_mulI (fe_op op_mulA v2_mulI (fe_var 4) (fe_var 4)) fe_int)) (fe_op op_mulA v2_mulI fe_int (fe_var 4))) fa_nil)) fe_int))
  (fss_cons (fs_set 5 sc__law_draw.nd (fe_op op_mod v2_mod (fe_ty call_int1 v_int E.n_int (fa_cons (fe_op op_addA v2_add (fe_op op_mulA v2_mulI (fe_var 5) fe_int) (fe_op op_fdivW v2_div (fe_var 5) fe_int)) fa_nil)) fe_int))
  (fss_cons (fs_dput B.room.u1 (fe_var 0) fe_str (fe_var 5).frz)
  (fss_one (fs_ret (fe_op op_mod v2_mod (fe_ty call_int1 v_int E.n_int (fa_cons (fe_op op_fdivW v2_div (fe_var 5) fe_int) fa_nil)) (fe_var 1)))))))))))
theorem ok__law_draw (E : En P K mg) : FnG P w K mg base 1 E.a__law_draw E.f__law_draw ["pot", "many"] (SpF ⟨K, mg⟩ 2 F__law_draw) := fn_mir E.d__law_draw sc__law_draw fun _ _ _ _ _ _ B => b__law_draw E B
theorem bn__law_draw (E : En P K mg) : Binds K E.f__law_draw ["pot", "many"] [] := E.d__law_draw.bindsN fun _ _ _ _ _ _ us hl => match us, hl with | [_, _], _ => rfl
abbrev n__law_pick : List Str := ["pot", "row"]
theorem sc__law_pick : FnScope n__law_pick ["pot", "row"] (defScope s__law_pick) := ⟨rfl, rfl, rfl, by decide +kernel, rfl, by decide +kernel, by decide +kernel⟩
def m__law_pick : Sx → Res Fl := (mRet (mOp gIx (mVar 1) (mCall 2 F__law_draw (mCons (mFrz (mVar 0)) (mCons (mFrz (mFn (g1 gLen) (mCons (mVar 1) mNil))) mNil)))))
def F__law_pick : Mir := runF 2 0 m__law_pick
theorem b__law_pick (E : En P K mg) {f cdv A outer z H X} (B : Bd (cxB P w K mg base n__law_pick "_law_pick" s__law_pick f cdv A outer z H X) (Wof X) 1) :
    FSs (cxB P w K mg base n__law_pick "_law_pick" s__law_pick f cdv A outer z H X) (Wof X) (defBody s__law_pick) m__law_pick :=
  (fss_one (fs_ret (fe_ix (fe_var 1) (fe_call (ok__law_draw E) B.gd (B.room.mono (by decide)) B.tk E.m__law_draw E.k__law_draw (bn__law_draw E) (fa_cons (fe_var 0).frz (fa_cons (FE.frz (fe_fn call_len v_len E.n_len (fa_cons (fe_var 1) fa_nil))) fa_nil))))))
theorem ok__law_pick (E : En P K mg) : FnG P w K mg base 2 E.a__law_pick E.f__law_pick ["pot", "row"] (SpF ⟨K, mg⟩ 2 F__law_pick) := fn_mir E.d__law_pick sc__law_pick fun _ _ _ _ _ _ B => b__law_pick E B
theorem bn__law_pick (E : En P K mg) : Binds K E.f__law_pick ["pot", "row"] [] := E.d__law_pick.bindsN fun _ _ _ _ _ _ us hl => match us, hl with | [_, _], _ => rfl
abbrev n__law_all_rows : List Str := ["p", "n", "found", "turn", "longer", "own", "item"]
theorem sc__law_all_rows : FnScope n__law_all_rows ["p", "n"] (defScope s__law_all_rows) := ⟨rfl, rfl, rfl, by decide +kernel, rfl, by decide +kernel, by decide +kernel⟩
def m__law_all_rows : Sx → Res Fl := (mSeq (mSet 2 (mLst (mCons (mTup mNil) mNil)))
  (mSeq (mFor (mRng rg1 (mCons (mFrz (mVar 1)) mNil)) (stv 3) (mSeq (mSet 4 (mLst mNil))
  (mSeq (mFor (mSeqI (mFrz (mVar 2))) (stv 5) (mExpr (mM gExtend (mVar 4) (mCons (mLc [6] (mRng rg1 (mCons (mFrz (mVar 0)) mNil)) (stv 6) mYes (mFrz (mOp gAdd (mVar 5) (mTup (mCons (mFrz (mVar 6)) mNil))))) mNil))))
  (mSet 2 (mFrz (mVar 4))))))
  (mRet (mVar 2))))
def F__law_all_rows : Mir := runF 2 5 m__law_all_rows
theorem b__law_all_rows (E : En P K mg) {f cdv A outer z H X} (B : Bd (cxB P w K mg base n__law_all_rows "_law_all_rows" s__law_all_rows f cdv A outer z H X) (Wof X) 0) :
    FSs (cxB P w K mg base n__law_all_rows "_law_all_rows" s__law_all_rows f cdv A outer z H X) (Wof X) (defBody s__law_all_rows) m__law_all_rows :=
  (fss_cons (fs_set 2 sc__law_all_rows.nd (fe_lst (fa_cons (fe_tup fa_nil) fa_nil)))
  (fss_cons (fs_for B.pass rfl (fi_rng1 E.n_range (fa_cons (fe_var 1).frz fa_nil)) (fg_name (vs := [3]) 3 sc__law_all_rows.nd) (fss_cons (fs_set 4 sc__law_all_rows.nd (fe_lst fa_nil))
  (fss_cons (fs_for B.pass rfl (fi_seq (fe_var 2).frz) (fg_name (vs := [5]) 5 sc__law_all_rows.nd) (fss_one (fs_expr (fe_bmL PySem.F.slot_list_extend PySem.F.type_list_extend mt_extend v_extend (fe_var 4) (fa_cons (fe_lc (own := [("item", 6)]) rfl sc__law_all_rows.nd (fi_rng1 E.n_range (fa_cons (fe_var 0).frz fa_nil)) (blkOk_by (by kernel_rfl)) (fun _ _ _ _ _ => (fg_name (vs := [6]) 6 sc__law_all_rows.nd)) (fun _ _ _ _ _ => fts_nil) (fun _ _ _ _ _ => (FE.frz (fe_op op_addA v2_add (fe_var 5) (fe_tup (fa_cons (fe_var 6).frz fa_nil)))))) fa_nil)))))
  (fss_one (fs_set 2 sc__law_all_rows.nd (fe_var 4).frz)))))
  (fss_one (fs_ret (fe_var 2)))))
theorem ok__law_all_rows (E : En P K mg) : FnG P w K mg base 1 E.a__law_all_rows E.f__law_all_rows ["p", "n"] (SpF ⟨K, mg⟩ 2 F__law_all_rows) := fn_mir E.d__law_all_rows sc__law_all_rows fun _ _ _ _ _ _ B => b__law_all_rows E B
theorem bn__law_all_rows (E : En P K mg) : Binds K E.f__law_all_rows ["p", "n"] [] := E.d__law_all_rows.bindsN fun _ _ _ _ _ _ us hl => match us, hl with | [_, _], _ => rfl
abbrev n__law_power : List Str := ["q", "often", "found", "turn"]
theorem sc__law_power : FnScope n__law_power ["q", "often"] (defScope s__law_power) := ⟨rfl, rfl, rfl, by decide +kernel, rfl, by decide +kernel, by decide +kernel⟩
def m__law_power : Sx → Res Fl := (mSeq (mSet 2 (mC (.int 1)))
  (mSeq (mFor (mRng rg1 (mCons (mFrz (mVar 1)) mNil)) (stv 3) (mSet 2 (mOp gMulI (mVar 2) (mVar 0))))
  (mRet (mVar 2))))
def F__law_power : Mir := runF 2 2 m__law_power
theorem b__law_power (E : En P K mg) {f cdv A outer z H X} (B : Bd (cxB P w K mg base n__law_power "_law_power" s__law_power f cdv A outer z H X) (Wof X) 0) :
    FSs (cxB P w K mg base n__law_power "_law_power" s__law_power f cdv A outer z H X) (Wof X) (defBody s__law_power) m__law_power :=
  (fss_cons (fs_set 2 sc__law_power.nd fe_int)
  (fss_cons (fs_for B.pass rfl (fi_rng1 E.n_range (fa_cons (fe_var 1).frz fa_nil)) (fg_name (vs := [3]) 3 sc__law_power.nd) (fss_one (fs_set 2 sc__law_power.nd (fe_op op_mulA v2_mulI (fe_var 2) (fe_var 0)))))
  (fss_one (fs_ret (fe_var 2)))))
theorem ok__law_power (E : En P K mg) : FnG P w K mg base 1 E.a__law_power E.f__law_power ["q", "often"] (SpF ⟨K, mg⟩ 2 F__law_power) := fn_mir E.d__law_power sc__law_power fun _ _ _ _ _ _ B => b__law_power E B
theorem bn__law_power (E : En P K mg) : Binds K E.f__law_power ["q", "often"] [] := E.d__law_power.bindsN fun _ _ _ _ _ _ us hl => match us, hl with | [_, _], _ => rfl
abbrev n__law_told : List Str := ["p", "k", "number", "is_named", "error"]
theorem sc__law_told : FnScope n__law_told ["p", "k", "number", "is_named"] (defScope s__law_told) := ⟨rfl, rfl, rfl, by decide +kernel, rfl, by decide +kernel, by decide +kernel⟩
def m__law_told : Sx → Res Fl := (mTry "TooMany" 4 (mRet (mLst (mCons (mC (.str "told")) (mCons (mFrz (mIf (mTest (mVar 3)) (mCallK 0 3 3 F_squares_rows [2, 1, 0] mNil (mCons (mFrz (mVar 2)) (mCons (mFrz (mVar 1)) (mCons (mFrz (mVar 0)) mNil)))) (mCall 3 F_squares_rows (mCons (mFrz (mVar 0)) (mCons (mFrz (mVar 1)) (mCons (mFrz (mVar 2)) mNil)))))) mNil)))) (qIf (fun _ => some (.bool true)) (qLst (qCons (fun _ => some (.str "many")) (qCons (qFld "limit") qNil))) (qLst qNil)))
def F__law_told : Mir := runF 4 1 m__law_told
theorem b__law_told (E : En P K mg) {f cdv A outer z H X} (B : Bd (cxB P w K mg base n__law_told "_law_told" s__law_told f cdv A outer z H X) (Wof X) 3) :
    FSs (cxB P w K mg base n__law_told "_law_told" s__law_told f cdv A outer z H X) (Wof X) (defBody s__law_told) m__law_told :=
  (fss_one (fs_tryAs 4 rfl rfl sc__law_told.nd B.tk E.mc_TooMany E.cs_TooMany.exm rfl (by decide) (fun _ _ _ t1 t2 => (fss_one (fs_ret (fe_lst (fa_cons fe_str (fa_cons (FE.frz (fe_if (ft_val (fe_var 3)) (fe_callK0 [2, 1, 0] (ok_squares_rows E) (B.tr t1 t2).gd ((B.tr t1 t2).room.mono (by decide)) (B.tr t1 t2).tk E.m_squares_rows E.k_squares_rows (kb_squares_rows_0_number_k_p E) (fk_cons (fe_var 2).frz (fk_cons (fe_var 1).frz (fk_cons (fe_var 0).frz fk_nil)))) (fe_call (ok_squares_rows E) (B.tr t1 t2).gd ((B.tr t1 t2).room.mono (by decide)) (B.tr t1 t2).tk E.m_squares_rows E.k_squares_rows (bn_squares_rows E) (fa_cons (fe_var 0).frz (fa_cons (fe_var 1).frz (fa_cons (fe_var 2).frz fa_nil)))))) fa_nil)))))) (fun _ _ _ _ _ z1 z2 => (q_if (q_isi E.mc_TooMany z1 z2 E.cs_TooMany.ec E.mc_SpaceError (kit_of_exm E.kt_TooMany_SpaceError) E.n_isinstance rfl (Or.inl rfl) rfl rfl) (q_lst (q_cons q_str (q_cons (q_fld E.mc_TooMany E.cs_TooMany.xf E.cs_TooMany.hno z1 z2 rfl (Or.inl rfl)) q_nil))) (q_lst q_nil)))))
theorem ok__law_told (E : En P K mg) : FnG P w K mg base 4 E.a__law_told E.f__law_told ["p", "k", "number", "is_named"] (SpF ⟨K, mg⟩ 4 F__law_told) := fn_mir E.d__law_told sc__law_told fun _ _ _ _ _ _ B => b__law_told E B
theorem bn__law_told (E : En P K mg) : Binds K E.f__law_told ["p", "k", "number", "is_named"] [] := E.d__law_told.bindsN fun _ _ _ _ _ _ us hl => match us, hl with | [_, _, _, _], _ => rfl
abbrev n__law_summed : List Str := ["p", "k", "found", "squares", "turn", "later", "number", "many", "square", "goal", "x"]
theorem sc__law_summed : FnScope n__law_summed ["p", "k"] (defScope s__law_summed) := ⟨rfl, rfl, rfl, by decide +kernel, rfl, by decide +kernel, by decide +kernel⟩
def m__law_summed : Sx → Res Fl := (mSeq (mSet 2 (mLc [6] (mRng rg1 (mCons (mFrz (mVar 0)) mNil)) (stv 6) mYes (mFrz (mFn (g1 gInt) (mCons (mOp gEqA (mVar 6) (mC (.int 0))) mNil)))))
  (mSeq (mSet 3 (mLc [10] (mRng rg1 (mCons (mFrz (mVar 0)) mNil)) (stv 10) mYes (mFrz (mOp gMod (mOp gMulI (mVar 10) (mVar 10)) (mVar 0)))))
  (mSeq (mFor (mRng rg1 (mCons (mFrz (mVar 1)) mNil)) (stv 4) (mSeq (mSet 5 (mOp gRepL (mLst (mCons (mC (.int 0)) mNil)) (mVar 0)))
  (mSeq (mFor (mRng enR (mCons (mFrz (mVar 2)) mNil)) (gTupA 2 (gsCons (stv 6) (gsCons (stv 7) gsNil))) (mFor (mSeqI (mFrz (mVar 3))) (stv 8) (mSeq (mSet 9 (mOp gMod (mOp gAdd (mVar 6) (mVar 8)) (mVar 0)))
  (mAsg (mFrz (mOp gAdd (mOp gIx (mVar 5) (mVar 9)) (mVar 7))) (gSubL (mVar 5) (mVar 9))))))
  (mSet 2 (mFrz (mVar 5))))))
  (mRet (mVar 2)))))
def F__law_summed : Mir := runF 2 9 m__law_summed
theorem b__law_summed (E : En P K mg) {f cdv A outer z H X} (B : Bd (cxB P w K mg base n__law_summed "_law_summed" s__law_summed f cdv A outer z H X) (Wof X) 0) :
    FSs (cxB P w K mg base n__law_summed "_law_summed" s__law_summed f cdv A outer z H X) (Wof X) (defBody s__law_summed) m__law_summed :=
  (fss_cons (fs_setLc (own := [("number", 6)]) 2 rfl sc__law_summed.nd rfl rfl rfl (fi_rng1 E.n_range (fa_cons (fe_var 0).frz fa_nil)) (blkOk_by (by kernel_rfl)) (fun _ _ _ _ _ => (fg_name (vs := [6]) 6 sc__law_summed.nd)) (fun _ _ _ _ _ => fts_nil) (fun _ _ _ _ _ => (FE.frz (fe_ty call_int1 v_int E.n_int (fa_cons (fe_cmp (op_eqA B.room.units) v2_eqA (fe_var 6) fe_int) fa_nil)))))
  (fss_cons (fs_setLc (own := [("x", 10)]) 3 rfl sc__law_summed.nd rfl rfl rfl (fi_rng1 E.n_range (fa_cons (fe_var 0).frz fa_nil)) (blkOk_by (by kernel_rfl)) (fun _ _ _ _ _ => (fg_name (vs := [10]) 10 sc__law_summed.nd)) (fun _ _ _ _ _ => fts_nil) (fun _ _ _ _ _ => (FE.frz (fe_op op_mod v2_mod (fe_op op_mulA v2_mulI (fe_var 10) (fe_var 10)) (fe_var 0)))))
  (fss_cons (fs_for B.pass rfl (fi_rng1 E.n_range (fa_cons (fe_var 1).frz fa_nil)) (fg_name (vs := [4]) 4 sc__law_summed.nd) (fss_cons (fs_set 5 sc__law_summed.nd (fe_op op_rep v2_repL (fe_lst (fa_cons fe_int fa_nil)) (fe_var 0)))
  (fss_cons (fs_for B.pass rfl (fi_enum E.n_enumerate (fa_cons (fe_var 2).frz fa_nil)) (fg_tup rfl (fgs_cons (fg_name (vs := [6, 7]) 6 sc__law_summed.nd) (fgs_cons (fg_name (vs := [6, 7]) 7 sc__law_summed.nd) fgs_nil))) (fss_one (fs_for B.pass rfl (fi_seq (fe_var 3).frz) (fg_name (vs := [8]) 8 sc__law_summed.nd) (fss_cons (fs_set 9 sc__law_summed.nd (fe_op op_mod v2_mod (fe_op op_addA v2_add (fe_var 6) (fe_var 8)) (fe_var 0)))
  (fss_one (fs_asg (vs := []) (FE.frz (fe_op op_addA v2_add (fe_ix (fe_var 5) (fe_var 9)) (fe_var 7))) (fg_sub (fe_var 5) (fe_var 9))))))))
  (fss_one (fs_set 2 sc__law_summed.nd (fe_var 5).frz)))))
  (fss_one (fs_ret (fe_var 2))))))
theorem ok__law_summed (E : En P K mg) : FnG P w K mg base 1 E.a__law_summed E.f__law_summed ["p", "k"] (SpF ⟨K, mg⟩ 2 F__law_summed) := fn_mir E.d__law_summed sc__law_summed fun _ _ _ _ _ _ B => b__law_summed E B
theorem bn__law_summed (E : En P K mg) : Binds K E.f__law_summed ["p", "k"] [] := E.d__law_summed.bindsN fun _ _ _ _ _ _ us hl => match us, hl with | [_, _], _ => rfl
abbrev n__law_remainder : List Str := ["p", "number", "found", "often", "turn"]
theorem sc__law_remainder : FnScope n__law_remainder ["p", "number"] (defScope s__law_remainder) := ⟨rfl, rfl, rfl, by decide +kernel, rfl, by decide +kernel, by decide +kernel⟩
def m__law_remainder : Sx → Res Fl := (mSeq (mPar2 2 3 (mCons (mC (.int 1)) (mCons (mOp gDiv (mOp gSub (mVar 0) (mC (.int 1))) (mC (.int 2))) mNil)))
  (mSeq (mFor (mRng rg1 (mCons (mC (.int 20)) mNil)) (stv 4) (mSeq (mIfS (mTest (mOp gEqA (mOp gMod (mVar 3) (mC (.int 2))) (mC (.int 1)))) (mSet 2 (mOp gMod (mOp gMulI (mVar 2) (mVar 1)) (mVar 0))) mNext)
  (mPar2 1 3 (mCons (mOp gMod (mOp gMulI (mVar 1) (mVar 1)) (mVar 0)) (mCons (mOp gDiv (mVar 3) (mC (.int 2))) mNil)))))
  (mRet (mVar 2))))
def F__law_remainder : Mir := runF 2 3 m__law_remainder
theorem b__law_remainder (E : En P K mg) {f cdv A outer z H X} (B : Bd (cxB P w K mg base n__law_remainder "_law_remainder" s__law_remainder f cdv A outer z H X) (Wof X) 0) :
    FSs (cxB P w K mg base n__law_remainder "_law_remainder" s__law_remainder f cdv A outer z H X) (Wof X) (defBody s__law_remainder) m__law_remainder :=
  (fss_cons (fs_par2 2 3 rfl sc__law_remainder.nd (fa_cons fe_int (fa_cons (fe_op op_fdivW v2_div (fe_op op_sub v2_sub (fe_var 0) fe_int) fe_int) fa_nil)))
  (fss_cons (fs_for B.pass rfl (fi_rng1 E.n_range (fa_cons fe_int fa_nil)) (fg_name (vs := [4]) 4 sc__law_remainder.nd) (fss_cons (fs_if (ft_cmp (op_eqA B.room.units) v2_eqA (fe_op op_mod v2_mod (fe_var 3) fe_int) fe_int) (fss_one (fs_set 2 sc__law_remainder.nd (fe_op op_mod v2_mod (fe_op op_mulA v2_mulI (fe_var 2) (fe_var 1)) (fe_var 0)))) fss_nil)
  (fss_one (fs_par2 1 3 rfl sc__law_remainder.nd (fa_cons (fe_op op_mod v2_mod (fe_op op_mulA v2_mulI (fe_var 1) (fe_var 1)) (fe_var 0)) (fa_cons (fe_op op_fdivW v2_div (fe_var 3) fe_int) fa_nil))))))
  (fss_one (fs_ret (fe_var 2)))))
theorem ok__law_remainder (E : En P K mg) : FnG P w K mg base 1 E.a__law_remainder E.f__law_remainder ["p", "number"] (SpF ⟨K, mg⟩ 2 F__law_remainder) := fn_mir E.d__law_remainder sc__law_remainder fun _ _ _ _ _ _ B => b__law_remainder E B
theorem bn__law_remainder (E : En P K mg) : Binds K E.f__law_remainder ["p", "number"] [] := E.d__law_remainder.bindsN fun _ _ _ _ _ _ us hl => match us, hl with | [_, _], _ => rfl
abbrev n__law_sign : List Str := ["p", "number"]
theorem sc__law_sign : FnScope n__law_sign ["p", "number"] (defScope s__law_sign) := ⟨rfl, rfl, rfl, by decide +kernel, rfl, by decide +kernel, by decide +kernel⟩
def m__law_sign : Sx → Res Fl := (mSeq (mSet 1 (mOp gMod (mVar 1) (mVar 0)))
  (mSeq (mIfS (mTest (mOp gEqA (mVar 1) (mC (.int 0)))) (mRet (mC (.int 0))) mNext)
  (mRet (mIf (mTest (mOp gEqA (mCall 2 F__law_remainder (mCons (mFrz (mVar 0)) (mCons (mFrz (mVar 1)) mNil))) (mC (.int 1)))) (mC (.int 1)) (mUn gNeg (mC (.int 1)))))))
def F__law_sign : Mir := runF 2 0 m__law_sign
theorem b__law_sign (E : En P K mg) {f cdv A outer z H X} (B : Bd (cxB P w K mg base n__law_sign "_law_sign" s__law_sign f cdv A outer z H X) (Wof X) 1) :
    FSs (cxB P w K mg base n__law_sign "_law_sign" s__law_sign f cdv A outer z H X) (Wof X) (defBody s__law_sign) m__law_sign :=
  (fss_cons (fs_set 1 sc__law_sign.nd (fe_op op_mod v2_mod (fe_var 1) (fe_var 0)))
  (fss_cons (fs_if (ft_cmp (op_eqA B.room.units) v2_eqA (fe_var 1) fe_int) (fss_one (fs_ret fe_int)) fss_nil)
  (fss_one (fs_ret (fe_if (ft_cmp (op_eqA B.room.units) v2_eqA (fe_call (ok__law_remainder E) B.gd (B.room.mono (by decide)) B.tk E.m__law_remainder E.k__law_remainder (bn__law_remainder E) (fa_cons (fe_var 0).frz (fa_cons (fe_var 1).frz fa_nil))) fe_int) fe_int (fe_un un_neg v1_neg fe_int))))))
theorem ok__law_sign (E : En P K mg) : FnG P w K mg base 2 E.a__law_sign E.f__law_sign ["p", "number"] (SpF ⟨K, mg⟩ 2 F__law_sign) := fn_mir E.d__law_sign sc__law_sign fun _ _ _ _ _ _ B => b__law_sign E B
theorem bn__law_sign (E : En P K mg) : Binds K E.f__law_sign ["p", "number"] [] := E.d__law_sign.bindsN fun _ _ _ _ _ _ us hl => match us, hl with | [_, _], _ => rfl
abbrev n__law_ways : List Str := ["p", "k", "number", "m", "turned"]
theorem sc__law_ways : FnScope n__law_ways ["p", "k", "number"] (defScope s__law_ways) := ⟨rfl, rfl, rfl, by decide +kernel, rfl, by decide +kernel, by decide +kernel⟩
def m__law_ways : Sx → Res Fl := (mSeq (mIfS (mTest (mOp gEqA (mVar 1) (mC (.int 0)))) (mRet (mFn (g1 gInt) (mCons (mOp gEqA (mVar 2) (mC (.int 0))) mNil))) mNext)
  (mSeq (mIfS (mTest (mOp gEqA (mVar 0) (mC (.int 2)))) (mRet (mCall 2 F__law_power (mCons (mC (.int 2)) (mCons (mFrz (mOp gSub (mVar 1) (mC (.int 1)))) mNil)))) mNext)
  (mSeq (mSet 3 (mOp gDiv (mVar 1) (mC (.int 2))))
  (mSeq (mSet 4 (mFrz (mIf (mTest (mOp gEqA (mOp gMod (mVar 3) (mC (.int 2))) (mC (.int 0)))) (mC (.int 1)) (mUn gNeg (mC (.int 1))))))
  (mSeq (mIfS (mTest (mOp gEqA (mOp gMod (mVar 1) (mC (.int 2))) (mC (.int 1)))) (mRet (mOp gAdd (mCall 2 F__law_power (mCons (mFrz (mVar 0)) (mCons (mFrz (mOp gSub (mVar 1) (mC (.int 1)))) mNil))) (mOp gMulI (mCall 2 F__law_power (mCons (mFrz (mVar 0)) (mCons (mFrz (mVar 3)) mNil))) (mCall 2 F__law_sign (mCons (mFrz (mVar 0)) (mCons (mFrz (mOp gMulI (mVar 4) (mVar 2))) mNil)))))) mNext)
  (mRet (mOp gAdd (mCall 2 F__law_power (mCons (mFrz (mVar 0)) (mCons (mFrz (mOp gSub (mVar 1) (mC (.int 1)))) mNil))) (mOp gMulI (mOp gMulI (mCall 2 F__law_sign (mCons (mFrz (mVar 0)) (mCons (mFrz (mVar 4)) mNil))) (mCall 2 F__law_power (mCons (mFrz (mVar 0)) (mCons (mFrz (mOp gSub (mVar 3) (mC (.int 1)))) mNil)))) (mIf (mTest (mOp gEqA (mVar 2) (mC (.int 0)))) (mOp gSub (mVar 0) (mC (.int 1))) (mUn gNeg (mC (.int 1))))))))))))
def F__law_ways : Mir := runF 3 2 m__law_ways
theorem b__law_ways (E : En P K mg) {f cdv A outer z H X} (B : Bd (cxB P w K mg base n__law_ways "_law_ways" s__law_ways f cdv A outer z H X) (Wof X) 2) :
    FSs (cxB P w K mg base n__law_ways "_law_ways" s__law_ways f cdv A outer z H X) (Wof X) (defBody s__law_ways) m__law_ways :=
  (fss_cons (fs_if (ft_cmp (op_eqA B.room.units) v2_eqA (fe_var 1) fe_int) (fss_one (fs_ret (fe_ty call_int1 v_int E.n_int (fa_cons (fe_cmp (op_eqA B.room.units) v2_eqA (fe_var 2) fe_int) fa_nil)))) fss_nil)
  (fss_cons (fs_if (ft_cmp (op_eqA B.room.units) v2_eqA (fe_var 0) fe_int) (fss_one (fs_ret (fe_call (ok__law_power E) B.gd (B.room.mono (by decide)) B.tk E.m__law_power E.k__law_power (bn__law_power E) (fa_cons fe_int (fa_cons (FE.frz (fe_op op_sub v2_sub (fe_var 1) fe_int)) fa_nil))))) fss_nil)
  (fss_cons (fs_set 3 sc__law_ways.nd (fe_op op_fdivW v2_div (fe_var 1) fe_int))
  (fss_cons (fs_set 4 sc__law_ways.nd (FE.frz (fe_if (ft_cmp (op_eqA B.room.units) v2_eqA (fe_op op_mod v2_mod (fe_var 3) fe_int) fe_int) fe_int (fe_un un_neg v1_neg fe_int))))
  (fss_cons (fs_if (ft_cmp (op_eqA B.room.units) v2_eqA (fe_op op_mod v2_mod (fe_var 1) fe_int) fe_int) (fss_one (fs_ret (fe_op op_addA v2_add (fe_call (ok__law_power E) B.gd (B.room.mono (by decide)) B.tk E.m__law_power E.k__law_power (bn__law_power E) (fa_cons (fe_var 0).frz (fa_cons (FE.frz (fe_op op_sub v2_sub (fe_var 1) fe_int)) fa_nil))) (fe_op op_mulA v2_mulI (fe_call (ok__law_power E) B.gd (B.room.mono (by decide)) B.tk E.m__law_power E.k__law_power (bn__law_power E) (fa_cons (fe_var 0).frz (fa_cons (fe_var 3).frz fa_nil))) (fe_call (ok__law_sign E) B.gd (B.room.mono (by decide)) B.tk E.m__law_sign E.k__law_sign (bn__law_sign E) (fa_cons (fe_var 0).frz (fa_cons (FE.frz (fe_op op_mulA v2_mulI (fe_var 4) (fe_var 2))) fa_nil))))))) fss_nil)
  (fss_one (fs_ret (fe_op op_addA v2_add (fe_call (ok__law_power E) B.gd (B.room.mono (by decide)) B.tk E.m__law_power E.k__law_power (bn__law_power E) (fa_cons (fe_var 0).frz (fa_cons (FE.frz (fe_op op_sub v2_sub (fe_var 1) fe_int)) fa_nil))) (fe_op op_mulA v2_mulI (fe_op op_mulA v2_mulI (fe_call (ok__law_sign E) B.gd (B.room.mono (by decide)) B.tk E.m__law_sign E.k__law_sign (bn__law_sign E) (fa_cons (fe_var 0).frz (fa_cons (fe_var 4).frz fa_nil))) (fe_call (ok__law_power E) B.gd (B.room.mono (by decide)) B.tk E.m__law_power E.k__law_power (bn__law_power E) (fa_cons (fe_var 0).frz (fa_cons (FE.frz (fe_op op_sub v2_sub (fe_var 3) fe_int)) fa_nil)))) (fe_if (ft_cmp (op_eqA B.room.units) v2_eqA (fe_var 2) fe_int) (fe_op op_sub v2_sub (fe_var 0) fe_int) (fe_un un_neg v1_neg fe_int)))))))))))
theorem ok__law_ways (E : En P K mg) : FnG P w K mg base 3 E.a__law_ways E.f__law_ways ["p", "k", "number"] (SpF ⟨K, mg⟩ 3 F__law_ways) := fn_mir E.d__law_ways sc__law_ways fun _ _ _ _ _ _ B => b__law_ways E B
theorem bn__law_ways (E : En P K mg) : Binds K E.f__law_ways ["p", "k", "number"] [] := E.d__law_ways.bindsN fun _ _ _ _ _ _ us hl => match us, hl with | [_, _, _], _ => rfl
abbrev n__law_is_asked : List Str := ["p", "k", "number", "due", "named"]
theorem sc__law_is_asked : FnScope n__law_is_asked ["p", "k", "number", "due"] (defScope s__law_is_asked) := ⟨rfl, rfl, rfl, by decide +kernel, rfl, by decide +kernel, by decide +kernel⟩
def m__law_is_asked : Sx → Res Fl := (mRet (mOp gEqA (mFn (g1 gRepr) (mCons (mLc [4] (mSeqI (mTup (mCons (mC (.bool false)) (mCons (mC (.bool true)) mNil)))) (stv 4) mYes (mFrz (mCall 4 F__law_told (mCons (mFrz (mVar 0)) (mCons (mFrz (mVar 1)) (mCons (mFrz (mVar 2)) (mCons (mFrz (mVar 4)) mNil))))))) mNil)) (mFn (g1 gRepr) (mCons (mLst (mCons (mFrz (mVar 3)) (mCons (mFrz (mVar 3)) mNil))) mNil))))
def F__law_is_asked : Mir := runF 4 1 m__law_is_asked
theorem b__law_is_asked (E : En P K mg) {f cdv A outer z H X} (B : Bd (cxB P w K mg base n__law_is_asked "_law_is_asked" s__law_is_asked f cdv A outer z H X) (Wof X) 4) :
    FSs (cxB P w K mg base n__law_is_asked "_law_is_asked" s__law_is_asked f cdv A outer z H X) (Wof X) (defBody s__law_is_asked) m__law_is_asked :=
  (fss_one (fs_ret (fe_cmp (op_eqA B.room.units) v2_eqA (fe_fn (cr_repr B.gd B.room) v_repr E.n_repr (fa_cons (fe_lc (own := [("named", 4)]) rfl sc__law_is_asked.nd (fi_seq (fe_tup (fa_cons fe_bl (fa_cons fe_bl fa_nil)))) (blkOk_by (by kernel_rfl)) (fun _ _ _ _ _ => (fg_name (vs := [4]) 4 sc__law_is_asked.nd)) (fun _ _ _ _ _ => fts_nil) (fun _ _ _ _ _ => (FE.frz (fe_call (ok__law_told E) B.gd (B.room.mono (by decide)) takesWF E.m__law_told E.k__law_told (bn__law_told E) (fa_cons (fe_var 0).frz (fa_cons (fe_var 1).frz (fa_cons (fe_var 2).frz (fa_cons (fe_var 4).frz fa_nil)))))))) fa_nil)) (fe_fn (cr_repr B.gd B.room) v_repr E.n_repr (fa_cons (fe_lst (fa_cons (fe_var 3).frz (fa_cons (fe_var 3).frz fa_nil))) fa_nil)))))
theorem ok__law_is_asked (E : En P K mg) : FnG P w K mg base 5 E.a__law_is_asked E.f__law_is_asked ["p", "k", "number", "due"] (SpF ⟨K, mg⟩ 4 F__law_is_asked) := fn_mir E.d__law_is_asked sc__law_is_asked fun _ _ _ _ _ _ B => b__law_is_asked E B
theorem bn__law_is_asked (E : En P K mg) : Binds K E.f__law_is_asked ["p", "k", "number", "due"] [] := E.d__law_is_asked.bindsN fun _ _ _ _ _ _ us hl => match us, hl with | [_, _, _, _], _ => rfl
abbrev n_law : List Str := ["script", "pot", "p", "k", "number", "kind", "due", "m", "total", "least", "rows", "v", "row", "x"]
theorem sc_law : FnScope n_law ["script"] (defScope s_law) := ⟨rfl, rfl, rfl, by decide +kernel, rfl, by decide +kernel, by decide +kernel⟩
def m_law : Sx → Res Fl := (mSeq (mSet 1 (mCall 1 F__law_pot (mCons (mFrz (mVar 0)) mNil)))
  (mSeq (mSet 2 (mCall 2 F__law_pick (mCons (mFrz (mVar 1)) (mCons (mFrz (mLst (mCons (mC (.int 2)) (mCons (mC (.int 3)) (mCons (mC (.int 5)) (mCons (mC (.int 7)) (mCons (mC (.int 11)) (mCons (mC (.int 13)) (mCons (mC (.int 2)) (mCons (mC (.int 3)) (mCons (mC (.int 101)) (mCons (mC (.int 997)) mNil)))))))))))) mNil))))
  (mSeq (mSet 3 (mCall 2 F__law_pick (mCons (mFrz (mVar 1)) (mCons (mFrz (mLst (mCons (mC (.int 0)) (mCons (mC (.int 1)) (mCons (mC (.int 2)) (mCons (mC (.int 3)) (mCons (mC (.int 4)) (mCons (mFrz (mCall 2 F__law_draw (mCons (mFrz (mVar 1)) (mCons (mC (.int 61)) mNil)))) (mCons (mC (.int 60)) mNil))))))))) mNil))))
  (mSeq (mSet 4 (mCall 2 F__law_draw (mCons (mFrz (mVar 1)) (mCons (mFrz (mVar 2)) mNil))))
  (mSeq (mSet 5 (mFrz (mIf (mTest (mOp gEqA (mVar 3) (mC (.int 0)))) (mTup (mCons (mC (.int 0)) (mCons (mC (.int 1)) mNil))) (mTup (mCons (mC (.int 1)) (mCons (mC (.int 0)) mNil))))))
  (mSeq (mIfS (mAnd (mTest (mOp gGt (mVar 2) (mC (.int 2)))) (mTest (mOp gGt (mVar 3) (mC (.int 0))))) (mSet 5 (mTup (mCons (mFrz (mVar 3)) (mCons (mFrz (mIf (mOr (mTest (mOp gEqA (mOp gMod (mVar 2) (mC (.int 4))) (mC (.int 1)))) (mTest (mOp gEqA (mOp gMod (mOp gDiv (mVar 3) (mC (.int 2))) (mC (.int 2))) (mC (.int 0))))) (mC (.int 1)) (mUn gNeg (mC (.int 1))))) mNil)))) mNext)
  (mSeq (mIfS (mTest (mOp gNeA (mFn (g1 gRepr) (mCons (mLst (mCons (mFrz (mCall 2 F_squares_kind (mCons (mFrz (mVar 2)) (mCons (mFrz (mVar 3)) mNil)))) (mCons (mFrz (mCallK 0 2 2 F_squares_kind [1, 0] mNil (mCons (mFrz (mVar 3)) (mCons (mFrz (mVar 2)) mNil)))) mNil))) mNil)) (mFn (g1 gRepr) (mCons (mLst (mCons (mFrz (mVar 5)) (mCons (mFrz (mVar 5)) mNil))) mNil)))) (mRet (mC (.bool false))) mNext)
  (mSeq (mSet 6 (mCall 3 F__law_ways (mCons (mFrz (mVar 2)) (mCons (mFrz (mVar 3)) (mCons (mFrz (mVar 4)) mNil)))))
  (mSeq (mIfS (mTest (mOp gNeA (mFn (g1 gRepr) (mCons (mLst (mCons (mFrz (mCall 3 F_squares_ways (mCons (mFrz (mVar 2)) (mCons (mFrz (mVar 3)) (mCons (mFrz (mVar 4)) mNil))))) (mCons (mFrz (mCallK 0 3 3 F_squares_ways [2, 1, 0] mNil (mCons (mFrz (mVar 4)) (mCons (mFrz (mVar 3)) (mCons (mFrz (mVar 2)) mNil))))) mNil))) mNil)) (mFn (g1 gRepr) (mCons (mLst (mCons (mFrz (mVar 6)) (mCons (mFrz (mVar 6)) mNil))) mNil)))) (mRet (mC (.bool false))) mNext)
  (mSeq (mIfS (mAnd (mTest (mOp gLt (mVar 2) (mC (.int 8)))) (mAnd (mTest (mOp gLt (mVar 3) (mC (.int 12)))) (mTest (mOp gNeA (mOp gIx (mCall 2 F__law_summed (mCons (mFrz (mVar 2)) (mCons (mFrz (mVar 3)) mNil))) (mVar 4)) (mVar 6))))) (mRet (mC (.bool false))) mNext)
  (mSeq (mIfS (mAnd (mTest (mOp gLt (mVar 2) (mC (.int 14)))) (mTest (mChain (fun i j => decide (i < j)) (fun i j => decide (i < j)) (mC (.int 0)) (mVar 3) (mC (.int 58))))) (mSeq (mSet 7 (mOp gAdd (mC (.int 1)) (mCall 2 F__law_draw (mCons (mFrz (mVar 1)) (mCons (mC (.int 2)) mNil)))))
  (mSeq (mSet 8 (mFn (g1 gSum) (mCons (mLc [11] (mRng rg1 (mCons (mFrz (mVar 2)) mNil)) (stv 11) mYes (mFrz (mOp gMulI (mCall 3 F_squares_ways (mCons (mFrz (mVar 2)) (mCons (mFrz (mVar 3)) (mCons (mFrz (mVar 11)) mNil)))) (mCall 3 F_squares_ways (mCons (mFrz (mVar 2)) (mCons (mFrz (mVar 7)) (mCons (mFrz (mOp gMod (mOp gSub (mVar 4) (mVar 11)) (mVar 2))) mNil))))))) mNil)))
  (mIfS (mTest (mOp gNeA (mVar 8) (mCall 3 F_squares_ways (mCons (mFrz (mVar 2)) (mCons (mFrz (mOp gAdd (mVar 3) (mVar 7))) (mCons (mFrz (mVar 4)) mNil)))))) (mRet (mC (.bool false))) mNext))) mNext)
  (mSeq (mSet 9 (mFrz (mIf (mTest (mOp gEqA (mVar 4) (mC (.int 0)))) (mC (.int 0)) (mIf (mOr (mTest (mOp gEqA (mVar 2) (mC (.int 2)))) (mTest (mOp gEqA (mCall 2 F__law_sign (mCons (mFrz (mVar 2)) (mCons (mFrz (mVar 4)) mNil))) (mC (.int 1))))) (mC (.int 1)) (mC (.int 2))))))
  (mSeq (mIfS (mTest (mOp gNeA (mFn (g1 gRepr) (mCons (mLst (mCons (mFrz (mCall 2 F_least_squares (mCons (mFrz (mVar 2)) (mCons (mFrz (mVar 4)) mNil)))) (mCons (mFrz (mCallK 0 2 2 F_least_squares [1, 0] mNil (mCons (mFrz (mVar 4)) (mCons (mFrz (mVar 2)) mNil)))) mNil))) mNil)) (mFn (g1 gRepr) (mCons (mLst (mCons (mFrz (mVar 9)) (mCons (mFrz (mVar 9)) mNil))) mNil)))) (mRet (mC (.bool false))) mNext)
  (mSeq (mSet 9 (mFrz (mIf (mOr (mTest (mOp gEqA (mVar 2) (mC (.int 2)))) (mTest (mOp gEqA (mOp gMod (mVar 2) (mC (.int 4))) (mC (.int 1))))) (mC (.int 2)) (mC (.int 3)))))
  (mSeq (mIfS (mTest (mOp gNeA (mFn (g1 gRepr) (mCons (mLst (mCons (mFrz (mCall 1 F_least_nought_squares (mCons (mFrz (mVar 2)) mNil))) (mCons (mFrz (mCallK 0 1 1 F_least_nought_squares [0] mNil (mCons (mFrz (mVar 2)) mNil))) mNil))) mNil)) (mFn (g1 gRepr) (mCons (mLst (mCons (mFrz (mVar 9)) (mCons (mFrz (mVar 9)) mNil))) mNil)))) (mRet (mC (.bool false))) mNext)
  (mSeq (mAsg (mFrz (mCall 2 F__law_pick (mCons (mFrz (mVar 1)) (mCons (mFrz (mLst (mCons (mTup (mCons (mC (.int 2)) (mCons (mC (.int 1)) mNil))) (mCons (mTup (mCons (mC (.int 2)) (mCons (mC (.int 5)) mNil))) (mCons (mTup (mCons (mC (.int 3)) (mCons (mC (.int 2)) mNil))) (mCons (mTup (mCons (mC (.int 3)) (mCons (mC (.int 4)) mNil))) (mCons (mTup (mCons (mC (.int 5)) (mCons (mC (.int 3)) mNil))) (mCons (mTup (mCons (mC (.int 7)) (mCons (mC (.int 2)) mNil))) (mCons (mTup (mCons (mC (.int 13)) (mCons (mC (.int 2)) mNil))) (mCons (mTup (mCons (mC (.int 97)) (mCons (mC (.int 1)) mNil))) (mCons (mTup (mCons (mC (.int 2)) (mCons (mC (.int 8)) mNil))) mNil))))))))))) mNil)))) (gTupA 2 (gsCons (stv 2) (gsCons (stv 3) gsNil))))
  (mSeq (mAsg (mTup (mCons (mFrz (mCall 2 F__law_draw (mCons (mFrz (mVar 1)) (mCons (mFrz (mVar 2)) mNil)))) (mCons (mFrz (mCall 2 F__law_all_rows (mCons (mFrz (mVar 2)) (mCons (mFrz (mVar 3)) mNil)))) mNil))) (gTupA 2 (gsCons (stv 4) (gsCons (stv 10) gsNil))))
  (mSeq (mSet 6 (mFn (g1 gTuple) (mCons (mLc [12] (mSeqI (mFrz (mVar 10))) (stv 12) (mTest (mOp gEqA (mOp gMod (mFn (g1 gSum) (mCons (mLc [13] (mSeqI (mFrz (mVar 12))) (stv 13) mYes (mFrz (mOp gMulI (mVar 13) (mVar 13)))) mNil)) (mVar 2)) (mVar 4))) (mFrz (mVar 12))) mNil)))
  (mSeq (mIfS (mNot (mTest (mCall 4 F__law_is_asked (mCons (mFrz (mVar 2)) (mCons (mFrz (mVar 3)) (mCons (mFrz (mVar 4)) (mCons (mFrz (mLst (mCons (mC (.str "told")) (mCons (mFrz (mVar 6)) mNil)))) mNil))))))) (mRet (mC (.bool false))) mNext)
  (mSeq (mAsg (mFrz (mCall 2 F__law_pick (mCons (mFrz (mVar 1)) (mCons (mFrz (mLst (mCons (mTup (mCons (mC (.int 2)) (mCons (mC (.int 12)) mNil))) (mCons (mTup (mCons (mC (.int 3)) (mCons (mC (.int 8)) mNil))) (mCons (mTup (mCons (mC (.int 5)) (mCons (mC (.int 5)) mNil))) (mCons (mTup (mCons (mC (.int 7)) (mCons (mC (.int 5)) mNil))) (mCons (mTup (mCons (mC (.int 59)) (mCons (mC (.int 2)) mNil))) (mCons (mTup (mCons (mC (.int 997)) (mCons (mC (.int 2)) mNil))) (mCons (mTup (mCons (mC (.int 2)) (mCons (mC (.int 60)) mNil))) (mCons (mTup (mCons (mC (.int 3)) (mCons (mC (.int 60)) mNil))) mNil)))))))))) mNil)))) (gTupA 2 (gsCons (stv 2) (gsCons (stv 3) gsNil))))
  (mRet (mCall 4 F__law_is_asked (mCons (mFrz (mVar 2)) (mCons (mFrz (mVar 3)) (mCons (mC (.int 1)) (mCons (mFrz (mLst (mCons (mC (.str "many")) (mCons (mC (.int 3000)) mNil)))) mNil))))))))))))))))))))))))))
def F_law : Mir := runF 1 13 m_law
theorem b_law (E : En P K mg) {f cdv A outer z H X} (B : Bd (cxB P w K mg base n_law "law" s_law f cdv A outer z H X) (Wof X) 5) :
    FSs (cxB P w K mg base n_law "law" s_law f cdv A outer z H X) (Wof X) (defBody s_law) m_law :=
  (fss_cons (fs_set 1 sc_law.nd (fe_call (ok__law_pot E) B.gd (B.room.mono (by decide)) B.tk E.m__law_pot E.k__law_pot (bn__law_pot E) (fa_cons (fe_var 0).frz fa_nil)))
  (fss_cons (fs_set 2 sc_law.nd (fe_call (ok__law_pick E) B.gd (B.room.mono (by decide)) B.tk E.m__law_pick E.k__law_pick (bn__law_pick E) (fa_cons (fe_var 1).frz (fa_cons (FE.frz (fe_lst (fa_cons fe_int (fa_cons fe_int (fa_cons fe_int (fa_cons fe_int (fa_cons fe_int (fa_cons fe_int (fa_cons fe_int (fa_cons fe_int (fa_cons fe_int (fa_cons fe_int fa_nil)))))))))))) fa_nil))))
  (fss_cons (fs_set 3 sc_law.nd (fe_call (ok__law_pick E) B.gd (B.room.mono (by decide)) B.tk E.m__law_pick E.k__law_pick (bn__law_pick E) (fa_cons (fe_var 1).frz (fa_cons (FE.frz (fe_lst (fa_cons fe_int (fa_cons fe_int (fa_cons fe_int (fa_cons fe_int (fa_cons fe_int (fa_cons (FE.frz (fe_call (ok__law_draw E) B.gd (B.room.mono (by decide)) B.tk E.m__law_draw E.k__law_draw (bn__law_draw E) (fa_cons (fe_var 1).frz (fa_cons fe_int fa_nil)))) (fa_cons fe_int fa_nil))))))))) fa_nil))))
  (fss_cons (fs_set 4 sc_law.nd (fe_call (ok__law_draw E) B.gd (B.room.mono (by decide)) B.tk E.m__law_draw E.k__law_draw (bn__law_draw E) (fa_cons (fe_var 1).frz (fa_cons (fe_var 2).frz fa_nil))))
  (fss_cons (fs_set 5 sc_law.nd (FE.frz (fe_if (ft_cmp (op_eqA B.room.units) v2_eqA (fe_var 3) fe_int) (fe_tup (fa_cons fe_int (fa_cons fe_int fa_nil))) (fe_tup (fa_cons fe_int (fa_cons fe_int fa_nil))))))
  (fss_cons (fs_if (fw_and (ft_cmp op_gt v2_gt (fe_var 2) fe_int) (fw_one_and (ft_cmp op_gt v2_gt (fe_var 3) fe_int))).t (fss_one (fs_set 5 sc_law.nd (fe_tup (fa_cons (fe_var 3).frz (fa_cons (FE.frz (fe_if (fw_or (ft_cmp (op_eqA B.room.units) v2_eqA (fe_op op_mod v2_mod (fe_var 2) fe_int) fe_int) (fw_one_or (ft_cmp (op_eqA B.room.units) v2_eqA (fe_op op_mod v2_mod (fe_op op_fdivW v2_div (fe_var 3) fe_int) fe_int) fe_int))).t fe_int (fe_un un_neg v1_neg fe_int))) fa_nil))))) fss_nil)
  (fss_cons (fs_if (ft_cmp (op_neA B.room.units) v2_neA (fe_fn (cr_repr B.gd B.room) v_repr E.n_repr (fa_cons (fe_lst (fa_cons (FE.frz (fe_call (ok_squares_kind E) B.gd (B.room.mono (by decide)) B.tk E.m_squares_kind E.k_squares_kind (bn_squares_kind E) (fa_cons (fe_var 2).frz (fa_cons (fe_var 3).frz fa_nil)))) (fa_cons (FE.frz (fe_callK0 [1, 0] (ok_squares_kind E) B.gd (B.room.mono (by decide)) B.tk E.m_squares_kind E.k_squares_kind (kb_squares_kind_0_k_p E) (fk_cons (fe_var 3).frz (fk_cons (fe_var 2).frz fk_nil)))) fa_nil))) fa_nil)) (fe_fn (cr_repr B.gd B.room) v_repr E.n_repr (fa_cons (fe_lst (fa_cons (fe_var 5).frz (fa_cons (fe_var 5).frz fa_nil))) fa_nil))) (fss_one (fs_ret fe_bl)) fss_nil)
  (fss_cons (fs_set 6 sc_law.nd (fe_call (ok__law_ways E) B.gd (B.room.mono (by decide)) B.tk E.m__law_ways E.k__law_ways (bn__law_ways E) (fa_cons (fe_var 2).frz (fa_cons (fe_var 3).frz (fa_cons (fe_var 4).frz fa_nil)))))
  (fss_cons (fs_if (ft_cmp (op_neA B.room.units) v2_neA (fe_fn (cr_repr B.gd B.room) v_repr E.n_repr (fa_cons (fe_lst (fa_cons (FE.frz (fe_call (ok_squares_ways E) B.gd (B.room.mono (by decide)) B.tk E.m_squares_ways E.k_squares_ways (bn_squares_ways E) (fa_cons (fe_var 2).frz (fa_cons (fe_var 3).frz (fa_cons (fe_var 4).frz fa_nil))))) (fa_cons (FE.frz (fe_callK0 [2, 1, 0] (ok_squares_ways E) B.gd (B.room.mono (by decide)) B.tk E.m_squares_ways E.k_squares_ways (kb_squares_ways_0_number_k_p E) (fk_cons (fe_var 4).frz (fk_cons (fe_var 3).frz (fk_cons (fe_var 2).frz fk_nil))))) fa_nil))) fa_nil)) (fe_fn (cr_repr B.gd B.room) v_repr E.n_repr (fa_cons (fe_lst (fa_cons (fe_var 6).frz (fa_cons (fe_var 6).frz fa_nil))) fa_nil))) (fss_one (fs_ret fe_bl)) fss_nil)
  (fss_cons (fs_if (fw_and (ft_cmp op_lt v2_lt (fe_var 2) fe_int) (fw_and (ft_cmp op_lt v2_lt (fe_var 3) fe_int) (fw_one_and (ft_cmp (op_neA B.room.units) v2_neA (fe_ix (fe_call (ok__law_summed E) B.gd (B.room.mono (by decide)) B.tk E.m__law_summed E.k__law_summed (bn__law_summed E) (fa_cons (fe_var 2).frz (fa_cons (fe_var 3).frz fa_nil))) (fe_var 4)) (fe_var 6))))).t (fss_one (fs_ret fe_bl)) fss_nil)
  (fss_cons (fs_if (fw_and (ft_cmp op_lt v2_lt (fe_var 2) fe_int) (fw_one_and (ft_chain (p := (fun i j => decide (i < j))) (q := (fun i j => decide (i < j))) op_lt op_lt fe_int (fe_var 3) fe_int))).t (fss_cons (fs_set 7 sc_law.nd (fe_op op_addA v2_add fe_int (fe_call (ok__law_draw E) B.gd (B.room.mono (by decide)) B.tk E.m__law_draw E.k__law_draw (bn__law_draw E) (fa_cons (fe_var 1).frz (fa_cons fe_int fa_nil)))))
  (fss_cons (fs_set 8 sc_law.nd (fe_fn (cr_sum rfl) v_sum E.n_sum (fa_cons (fe_lc (own := [("v", 11)]) rfl sc_law.nd (fi_rng1 E.n_range (fa_cons (fe_var 2).frz fa_nil)) (blkOk_by (by kernel_rfl)) (fun _ _ _ _ _ => (fg_name (vs := [11]) 11 sc_law.nd)) (fun _ _ _ _ _ => fts_nil) (fun _ _ _ _ _ => (FE.frz (fe_op op_mulA v2_mulI (fe_call (ok_squares_ways E) B.gd (B.room.mono (by decide)) takesWF E.m_squares_ways E.k_squares_ways (bn_squares_ways E) (fa_cons (fe_var 2).frz (fa_cons (fe_var 3).frz (fa_cons (fe_var 11).frz fa_nil)))) (fe_call (ok_squares_ways E) B.gd (B.room.mono (by decide)) takesWF E.m_squares_ways E.k_squares_ways (bn_squares_ways E) (fa_cons (fe_var 2).frz (fa_cons (fe_var 7).frz (fa_cons (FE.frz (fe_op op_mod v2_mod (fe_op op_sub v2_sub (fe_var 4) (fe_var 11)) (fe_var 2))) fa_nil)))))))) fa_nil)))
  (fss_one (fs_if (ft_cmp (op_neA B.room.units) v2_neA (fe_var 8) (fe_call (ok_squares_ways E) B.gd (B.room.mono (by decide)) B.tk E.m_squares_ways E.k_squares_ways (bn_squares_ways E) (fa_cons (fe_var 2).frz (fa_cons (FE.frz (fe_op op_addA v2_add (fe_var 3) (fe_var 7))) (fa_cons (fe_var 4).frz fa_nil))))) (fss_one (fs_ret fe_bl)) fss_nil)))) fss_nil)
  (fss_cons (fs_set 9 sc_law.nd (FE.frz (fe_if (ft_cmp (op_eqA B.room.units) v2_eqA (fe_var 4) fe_int) fe_int (fe_if (fw_or (ft_cmp (op_eqA B.room.units) v2_eqA (fe_var 2) fe_int) (fw_one_or (ft_cmp (op_eqA B.room.units) v2_eqA (fe_call (ok__law_sign E) B.gd (B.room.mono (by decide)) B.tk E.m__law_sign E.k__law_sign (bn__law_sign E) (fa_cons (fe_var 2).frz (fa_cons (fe_var 4).frz fa_nil))) fe_int))).t fe_int fe_int))))
  (fss_cons (fs_if (ft_cmp (op_neA B.room.units) v2_neA (fe_fn (cr_repr B.gd B.room) v_repr E.n_repr (fa_cons (fe_lst (fa_cons (FE.frz (fe_call (ok_least_squares E) B.gd (B.room.mono (by decide)) B.tk E.m_least_squares E.k_least_squares (bn_least_squares E) (fa_cons (fe_var 2).frz (fa_cons (fe_var 4).frz fa_nil)))) (fa_cons (FE.frz (fe_callK0 [1, 0] (ok_least_squares E) B.gd (B.room.mono (by decide)) B.tk E.m_least_squares E.k_least_squares (kb_least_squares_0_number_p E) (fk_cons (fe_var 4).frz (fk_cons (fe_var 2).frz fk_nil)))) fa_nil))) fa_nil)) (fe_fn (cr_repr B.gd B.room) v_repr E.n_repr (fa_cons (fe_lst (fa_cons (fe_var 9).frz (fa_cons (fe_var 9).frz fa_nil))) fa_nil))) (fss_one (fs_ret fe_bl)) fss_nil)
  (fss_cons (fs_set 9 sc_law.nd (FE.frz (fe_if (fw_or (ft_cmp (op_eqA B.room.units) v2_eqA (fe_var 2) fe_int) (fw_one_or (ft_cmp (op_eqA B.room.units) v2_eqA (fe_op op_mod v2_mod (fe_var 2) fe_int) fe_int))).t fe_int fe_int)))
  (fss_cons (fs_if (ft_cmp (op_neA B.room.units) v2_neA (fe_fn (cr_repr B.gd B.room) v_repr E.n_repr (fa_cons (fe_lst (fa_cons (FE.frz (fe_call (ok_least_nought_squares E) B.gd (B.room.mono (by decide)) B.tk E.m_least_nought_squares E.k_least_nought_squares (bn_least_nought_squares E) (fa_cons (fe_var 2).frz fa_nil))) (fa_cons (FE.frz (fe_callK0 [0] (ok_least_nought_squares E) B.gd (B.room.mono (by decide)) B.tk E.m_least_nought_squares E.k_least_nought_squares (kb_least_nought_squares_0_p E) (fk_cons (fe_var 2).frz fk_nil))) fa_nil))) fa_nil)) (fe_fn (cr_repr B.gd B.room) v_repr E.n_repr (fa_cons (fe_lst (fa_cons (fe_var 9).frz (fa_cons (fe_var 9).frz fa_nil))) fa_nil))) (fss_one (fs_ret fe_bl)) fss_nil)
  (fss_cons (fs_asg (vs := [2, 3]) (FE.frz (fe_call (ok__law_pick E) B.gd (B.room.mono (by decide)) B.tk E.m__law_pick E.k__law_pick (bn__law_pick E) (fa_cons (fe_var 1).frz (fa_cons (FE.frz (fe_lst (fa_cons (fe_tup (fa_cons fe_int (fa_cons fe_int fa_nil))) (fa_cons (fe_tup (fa_cons fe_int (fa_cons fe_int fa_nil))) (fa_cons (fe_tup (fa_cons fe_int (fa_cons fe_int fa_nil))) (fa_cons (fe_tup (fa_cons fe_int (fa_cons fe_int fa_nil))) (fa_cons (fe_tup (fa_cons fe_int (fa_cons fe_int fa_nil))) (fa_cons (fe_tup (fa_cons fe_int (fa_cons fe_int fa_nil))) (fa_cons (fe_tup (fa_cons fe_int (fa_cons fe_int fa_nil))) (fa_cons (fe_tup (fa_cons fe_int (fa_cons fe_int fa_nil))) (fa_cons (fe_tup (fa_cons fe_int (fa_cons fe_int fa_nil))) fa_nil))))))))))) fa_nil)))) (fg_tup rfl (fgs_cons (fg_name (vs := [2, 3]) 2 sc_law.nd) (fgs_cons (fg_name (vs := [2, 3]) 3 sc_law.nd) fgs_nil))))
  (fss_cons (fs_asg (vs := [4, 10]) (fe_tup (fa_cons (FE.frz (fe_call (ok__law_draw E) B.gd (B.room.mono (by decide)) B.tk E.m__law_draw E.k__law_draw (bn__law_draw E) (fa_cons (fe_var 1).frz (fa_cons (fe_var 2).frz fa_nil)))) (fa_cons (FE.frz (fe_call (ok__law_all_rows E) B.gd (B.room.mono (by decide)) B.tk E.m__law_all_rows E.k__law_all_rows (bn__law_all_rows E) (fa_cons (fe_var 2).frz (fa_cons (fe_var 3).frz fa_nil)))) fa_nil))) (fg_tup rfl (fgs_cons (fg_name (vs := [4, 10]) 4 sc_law.nd) (fgs_cons (fg_name (vs := [4, 10]) 10 sc_law.nd) fgs_nil))))
  (fss_cons (fs_set 6 sc_law.nd (fe_ty call_tuple_of v_tuple E.n_tuple (fa_cons (fe_lc (own := [("row", 12)]) rfl sc_law.nd (fi_seq (fe_var 10).frz) (blkOk_by (by kernel_rfl)) (fun _ _ _ _ _ => (fg_name (vs := [12]) 12 sc_law.nd)) (fun _ _ _ _ _ => (fts_one (ft_cmp (op_eqA B.room.units) v2_eqA (fe_op op_mod v2_mod (fe_fn (cr_sum rfl) v_sum E.n_sum (fa_cons (fe_lc (own := [("x", 13)]) rfl sc_law.nd (fi_seq (fe_var 12).frz) (blkOk_by (by kernel_rfl)) (fun _ _ _ _ _ => (fg_name (vs := [13]) 13 sc_law.nd)) (fun _ _ _ _ _ => fts_nil) (fun _ _ _ _ _ => (FE.frz (fe_op op_mulA v2_mulI (fe_var 13) (fe_var 13))))) fa_nil)) (fe_var 2)) (fe_var 4)))) (fun _ _ _ _ _ => (fe_var 12).frz)) fa_nil)))
  (fss_cons (fs_if (ft_not (ft_val (fe_call (ok__law_is_asked E) B.gd (B.room.mono (by decide)) B.tk E.m__law_is_asked E.k__law_is_asked (bn__law_is_asked E) (fa_cons (fe_var 2).frz (fa_cons (fe_var 3).frz (fa_cons (fe_var 4).frz (fa_cons (FE.frz (fe_lst (fa_cons fe_str (fa_cons (fe_var 6).frz fa_nil)))) fa_nil))))))) (fss_one (fs_ret fe_bl)) fss_nil)
  (fss_cons (fs_asg (vs := [2, 3]) (FE.frz (fe_call (ok__law_pick E) B.gd (B.room.mono (by decide)) B.tk E.m__law_pick E.k__law_pick (bn__law_pick E) (fa_cons (fe_var 1).frz (fa_cons (FE.frz (fe_lst (fa_cons (fe_tup (fa_cons fe_int (fa_cons fe_int fa_nil))) (fa_cons (fe_tup (fa_cons fe_int (fa_cons fe_int fa_nil))) (fa_cons (fe_tup (fa_cons fe_int (fa_cons fe_int fa_nil))) (fa_cons (fe_tup (fa_cons fe_int (fa_cons fe_int fa_nil))) (fa_cons (fe_tup (fa_cons fe_int (fa_cons fe_int fa_nil))) (fa_cons (fe_tup (fa_cons fe_int (fa_cons fe_int fa_nil))) (fa_cons (fe_tup (fa_cons fe_int (fa_cons fe_int fa_nil))) (fa_cons (fe_tup (fa_cons fe_int (fa_cons fe_int fa_nil))) fa_nil)))))))))) fa_nil)))) (fg_tup rfl (fgs_cons (fg_name (vs := [2, 3]) 2 sc_law.nd) (fgs_cons (fg_name (vs := [2, 3]) 3 sc_law.nd) fgs_nil))))
  (fss_one (fs_ret (fe_call (ok__law_is_asked E) B.gd (B.room.mono (by decide)) B.tk E.m__law_is_asked E.k__law_is_asked (bn__law_is_asked E) (fa_cons (fe_var 2).frz (fa_cons (fe_var 3).frz (fa_cons fe_int (fa_cons (FE.frz (fe_lst (fa_cons fe_str (fa_cons fe_int fa_nil)))) fa_nil)))))))))))))))))))))))))))
theorem ok_law (E : En P K mg) : FnG P w K mg base 6 E.a_law E.f_law ["script"] (SpF ⟨K, mg⟩ 1 F_law) := fn_mir E.d_law sc_law fun _ _ _ _ _ _ B => b_law E B
theorem bn_law (E : En P K mg) : Binds K E.f_law ["script"] [] := E.d_law.bindsN fun _ _ _ _ _ _ us hl => match us, hl with | [_], _ => rfl
end
end K80

namespace K80
open PySem PySem.Spec PyProof.Rows L2 Fe
theorem rg1_ap {n : Int} {s : Sx} (h : rgOk n = true) : rg1 [I n] s = some (rgL 0 n, s) := if_pos h
theorem foldl_pow (a : Int) : ∀ (l : List AV) (f : Int), l.foldl (fun x _ => x * a) f = f * a ^ l.length
  | [], f => by simp
  | x :: l, f => by rw [List.foldl_cons, foldl_pow a l, List.length_cons, Int.pow_succ, Int.mul_assoc, Int.mul_comm a]
theorem fold_fst {β : Type} (a : Int) (h : AV → Option AV → Option AV) : ∀ (l : List AV) (q : Int × Option AV), (l.foldl (fun q x => (q.1 * a, h x q.2)) q).1 = q.1 * a ^ l.length
  | [], q => by simp
  | x :: l, q => by
    rw [List.foldl_cons, fold_fst (β := β) a h l, List.length_cons, Int.pow_succ, Int.mul_assoc, Int.mul_comm a]
theorem rgL_len {n : Int} : (rgL 0 n).length = n.toNat := by unfold rgL; simp
theorem e_power {a n : Int} {sto : List SO} (ha : a.natAbs < 2 ^ 64) (hn : rgOk n = true) : F_power [I a, I n] sto = okI (a ^ n.toNat) sto := by
  unfold F_power
  rw [run_ap (n := 2) rfl rfl]
  have h1 : mFor (mRng rg1 (mCons (mFrz (mVar 1)) mNil)) (stv 3) (mSet 2 (mOp gMulI (mVar 2) (mVar 0))) ⟨[some (I a), some (I n), some (I 1), none], sto⟩ = floop (stv 3) (mSet 2 (mOp gMulI (mVar 2) (mVar 0))) (rgL 0 n) ⟨[some (I a), some (I n), some (I 1), none], sto⟩ := by
    show (ofO (rg1 [I n] ⟨_, _⟩)).bind _ = _
    rw [rg1_ap hn]; rfl
  have h2 := floop_next (g := stv 3) (b := mSet 2 (mOp gMulI (mVar 2) (mVar 0))) (st := fun (q : Int × Option AV) => ⟨[some (I a), some (I n), some (I q.1), q.2], sto⟩) (step := fun x q => (q.1 * a, some x)) (items := rgL 0 n) (a := (1, none)) (fun x hx q => by
    obtain ⟨j, _, rfl⟩ := List.mem_map.mp hx
    show (ofO (gMulI (I q.1) (I a) _)).bind _ = _
    rw [mul_ii (mulOk_r ha)]; rfl)
  show ((mFor _ _ _ ⟨[some (I a), some (I n), some (I 1), none], sto⟩).bind _).bind _ = _
  rw [h1, h2]
  have e := fold_fst (β := Unit) a (fun x _ => some x) (rgL 0 n) (1, none)
  rw [rgL_len, Int.one_mul] at e
  show Res.ok (AV.dat (.int ((rgL 0 n).foldl (fun q x => (q.1 * a, some x)) ((1 : Int), (none : Option AV))).1)) _ = _
  rw [e]
end K80
namespace K80
open PySem PySem.Spec PyProof.Rows L2 Fe
theorem e_lpower {a n : Int} {sto : List SO} (ha : a.natAbs < 2 ^ 64) (hn : rgOk n = true) : F__law_power [I a, I n] sto = okI (a ^ n.toNat) sto := e_power ha hn
/-- a power's rest, from the left -/
def pl (p : Int) : Nat → Int → Int → Int → Int
  | 0, _, f, _ => f
  | k + 1, n, f, b => if 0 < n then pl p k (n / 2) (if n % 2 = 1 then f * b % p else f) (b * b % p) else f
theorem div_ii {a b : Int} {s : Sx} (h : divOk b = true) : gDiv (I a) (I b) s = some (I (a / b), s) := if_pos h
theorem pl_loop {p a : Int} {sto : List SO} (hp : 0 < p) (hp2 : p < 2 ^ 60) : ∀ (k : Nat) (n f b : Int), n < 2 ^ k → n.natAbs < 2 ^ 60 → f.natAbs < 2 ^ 64 → b.natAbs < 2 ^ 64 → ∃ n' b',
    wloop (mTest (mOp gGt (mVar 2) (mC (.int 0)))) (mSeq (mIfS (mTest (mOp gEqA (mOp gMod (mVar 2) (mC (.int 2))) (mC (.int 1)))) (mSet 3 (mOp gMod (mOp gMulI (mVar 3) (mVar 4)) (mVar 0))) mNext)
  (mPar2 4 2 (mCons (mOp gMod (mOp gMulI (mVar 4) (mVar 4)) (mVar 0)) (mCons (mOp gDiv (mVar 2) (mC (.int 2))) mNil)))) (k + 1) ⟨[some (I p), some (I a), some (I n), some (I f), some (I b)], sto⟩ = .ok .next ⟨[some (I p), some (I a), some (I n'), some (I (pl p k n f b)), some (I b')], sto⟩ := by
  intro k
  induction k with
  | zero =>
    intro n f b hn _ _ _
    refine ⟨n, b, ?_⟩
    have : ¬ 0 < n := by omega
    unfold wloop
    show (Res.ok (decide (0 < n)) _).bind _ = _
    rw [bind_ok, if_neg (by simpa using this)]
    rfl
  | succ k ih =>
    intro n f b hn hn2 hf hb
    have hm1 : 0 ≤ b * b % p := Int.emod_nonneg _ (by omega)
    have hm2 : b * b % p < p := Int.emod_lt_of_pos _ hp
    have hm3 : 0 ≤ f * b % p := Int.emod_nonneg _ (by omega)
    have hm4 : f * b % p < p := Int.emod_lt_of_pos _ hp
    by_cases h0 : 0 < n
    · obtain ⟨n', b', e⟩ := ih (n / 2) (if n % 2 = 1 then f * b % p else f) (b * b % p) (by have : (2 : Int) ^ (k + 1) = 2 ^ k * 2 := by rw [Int.pow_succ]
                                                                                            omega) (by omega) (by split <;> omega) (by omega)
      refine ⟨n', b', ?_⟩
      rw [wloop]
      show (Res.ok (decide (0 < n)) _).bind _ = _
      rw [bind_ok, if_pos (by simpa using h0)]
      have hstep : (mSeq (mIfS (mTest (mOp gEqA (mOp gMod (mVar 2) (mC (.int 2))) (mC (.int 1)))) (mSet 3 (mOp gMod (mOp gMulI (mVar 3) (mVar 4)) (mVar 0))) mNext)
          (mPar2 4 2 (mCons (mOp gMod (mOp gMulI (mVar 4) (mVar 4)) (mVar 0)) (mCons (mOp gDiv (mVar 2) (mC (.int 2))) mNil)))) ⟨[some (I p), some (I a), some (I n), some (I f), some (I b)], sto⟩ = .ok .next ⟨[some (I p), some (I a), some (I (n / 2)), some (I (if n % 2 = 1 then f * b % p else f)), some (I (b * b % p))], sto⟩ := by
        have c1 : (mTest (mOp gEqA (mOp gMod (mVar 2) (mC (.int 2))) (mC (.int 1)))) ⟨[some (I p), some (I a), some (I n), some (I f), some (I b)], sto⟩ = .ok (n % 2 == 1) ⟨[some (I p), some (I a), some (I n), some (I f), some (I b)], sto⟩ := by
          show ((((ofO (gMod (I n) (I 2) ⟨_, _⟩)).bind _).bind _)) = _
          rw [mod_ii (by decide)]
          show (ofO (gEqA (I (n % 2)) (I 1) _)).bind _ = _
          rw [eqA_ii]; rfl
        have c2 : ∀ f', (mPar2 4 2 (mCons (mOp gMod (mOp gMulI (mVar 4) (mVar 4)) (mVar 0)) (mCons (mOp gDiv (mVar 2) (mC (.int 2))) mNil))) ⟨[some (I p), some (I a), some (I n), some (I f'), some (I b)], sto⟩ = .ok .next ⟨[some (I p), some (I a), some (I (n / 2)), some (I f'), some (I (b * b % p))], sto⟩ := by
          intro f'
          refine (mPar2_ap (a := I (b * b % p)) (b := I (n / 2)) (s1 := ⟨[some (I p), some (I a), some (I n), some (I f'), some (I b)], sto⟩) ?_ rfl rfl).trans rfl
          show ((((ofO (gMulI (I b) (I b) ⟨_, _⟩)).bind _).bind _)) = _
          rw [mul_ii (mulOk_l hb)]
          show ((ofO (gMod (I (b * b)) (I p) ⟨_, _⟩)).bind _) = _
          rw [mod_ii hp, ofO_some, bind_ok]
          show (((ofO (gDiv (I n) (I 2) ⟨_, _⟩)).bind _).bind _) = _
          rw [div_ii (by decide)]; rfl
        rw [mSeq_ap, mIfS_ap, c1, bind_ok]
        by_cases h1 : n % 2 = 1
        · rw [if_pos (by simpa using h1), if_pos h1]
          have c3 : (mSet 3 (mOp gMod (mOp gMulI (mVar 3) (mVar 4)) (mVar 0))) ⟨[some (I p), some (I a), some (I n), some (I f), some (I b)], sto⟩ = .ok .next ⟨[some (I p), some (I a), some (I n), some (I (f * b % p)), some (I b)], sto⟩ := by
            show ((((ofO (gMulI (I f) (I b) ⟨_, _⟩)).bind _)).bind _) = _
            rw [mul_ii (mulOk_l hf)]
            show ((ofO (gMod (I (f * b)) (I p) ⟨_, _⟩)).bind _) = _
            rw [mod_ii hp]; rfl
          rw [c3, bind_ok]
          exact c2 _
        · rw [if_neg (by simpa using h1), if_neg h1, mNext_ap, bind_ok]
          exact c2 _
      rw [hstep, bind_ok]
      show wloop _ _ (k + 1) _ = _
      rw [e, pl, if_pos h0]
    · refine ⟨n, b, ?_⟩
      rw [wloop]
      show (Res.ok (decide (0 < n)) _).bind _ = _
      rw [bind_ok, if_neg (by simpa using h0), pl, if_neg h0]
theorem e_pleft {p a n : Int} {sto : List SO} (hp : 0 < p) (hp2 : p < 2 ^ 60) (hn : n.natAbs < 2 ^ 60) : F_power_left [I p, I a, I n] sto = okI (pl p 63 n 1 (a % p)) sto := by
  have hm1 : 0 ≤ a % p := Int.emod_nonneg _ (by omega)
  have hm2 : a % p < p := Int.emod_lt_of_pos _ hp
  obtain ⟨n', b', e⟩ := pl_loop (a := a) (sto := sto) hp hp2 63 n 1 (a % p) (by omega) hn (by decide) (by omega)
  unfold F_power_left
  rw [run_ap (n := 3) rfl rfl]
  unfold m_power_left
  have c0 : mPar2 3 4 (mCons (mC (.int 1)) (mCons (mOp gMod (mVar 1) (mVar 0)) mNil)) ⟨[some (I p), some (I a), some (I n), none, none], sto⟩ = .ok .next ⟨[some (I p), some (I a), some (I n), some (I 1), some (I (a % p))], sto⟩ := by
    refine (mPar2_ap (a := I 1) (b := I (a % p)) (s1 := ⟨[some (I p), some (I a), some (I n), none, none], sto⟩) ?_ rfl rfl).trans rfl
    show ((((ofO (gMod (I a) (I p) ⟨_, _⟩)).bind _)).bind _) = _
    rw [mod_ii hp]; rfl
  show ((mSeq _ _ ⟨[some (I p), some (I a), some (I n), none, none], sto⟩).bind _) = _
  rw [mSeq_ap, c0, bind_ok]
  show ((mSeq _ _ ⟨_, _⟩).bind _) = _
  rw [mSeq_ap, e, bind_ok]
  rfl
def sq (p a : Int) : Int := if a % p = 0 then 0 else if pl p 63 ((p - 1) / 2) 1 (a % p) = 1 then 1 else -1
theorem e_sign {p a : Int} {sto : List SO} (hp : 0 < p) (hp2 : p < 2 ^ 60) : F_square_sign [I p, I a] sto = okI (sq p a) sto := by
  unfold F_square_sign
  rw [run_out (n := 2) rfl rfl]
  unfold m_square_sign
  have e := e_pleft (a := a) (sto := sto) hp hp2 (n := (p - 1) / 2) (by omega)
  simp [mod_ii hp, div_ii (show divOk 2 = true by decide), e]
  unfold sq
  split
  · rfl
  · split <;> rfl
def kindD (p k : Int) : PyData := if k = 0 then .tuple [.int 0, .int 1] else if p = 2 then .tuple [.int 1, .int 0] else .tuple [.int k, .int (if p % 4 = 1 ∨ k / 2 % 2 = 0 then 1 else -1)]
theorem e_kind {p k : Int} {sto : List SO} : F_squares_kind [I p, I k] sto = .ok (.dat (kindD p k)) ⟨[], sto⟩ := by
  unfold F_squares_kind
  rw [run_out (n := 2) rfl rfl]
  unfold m_squares_kind kindD
  simp [mod_ii (show (0 : Int) < 4 by decide), mod_ii (show (0 : Int) < 2 by decide), div_ii (show divOk 2 = true by decide), LIM]
  split
  · rfl
  · split
    · rfl
    · by_cases h1 : p % 4 = 1
      · simp [h1]
      · by_cases h2 : k / 2 % 2 = 0
        · simp [h1, h2]
        · simp [h1, h2]
def ways (p k a : Int) : Int := if k = 0 then (if a = 0 then 1 else 0) else if p = 2 then 2 ^ (k - 1).toNat else
  if k % 2 = 1 then p ^ (k - 1).toNat + (if k / 2 % 2 = 1 then sq p (-1) else 1) * sq p a * p ^ (k / 2).toNat
  else if a = 0 then p ^ (k - 1).toNat + (if k / 2 % 2 = 1 then sq p (-1) else 1) * (p ^ (k / 2).toNat - p ^ (k / 2 - 1).toNat)
  else p ^ (k - 1).toNat - (if k / 2 % 2 = 1 then sq p (-1) else 1) * p ^ (k / 2 - 1).toNat
theorem sq_abs {p a : Int} : (sq p a).natAbs ≤ 1 := by
  unfold sq
  split
  · decide
  · split <;> decide
theorem e_ways {p k a : Int} {sto : List SO} (hp : 0 < p) (hp2 : p < 2 ^ 60) (hk : 0 ≤ k) (hk2 : k < 2 ^ 60) : F_squares_ways [I p, I k, I a] sto = okI (ways p k a) sto := by
  have r1 : ∀ j : Int, -5 ≤ j → j < 2 ^ 60 → rgOk j = true := fun j h1 h2 => by unfold rgOk; simp; omega
  have pa : p.natAbs < 2 ^ 64 := by omega
  have e1 := fun sto => e_power (sto := sto) pa (r1 (k - 1) (by omega) (by omega))
  have e2 := fun sto => e_power (sto := sto) pa (r1 (k / 2) (by omega) (by omega))
  have e3 := fun sto => e_power (sto := sto) pa (r1 (k / 2 - 1) (by omega) (by omega))
  have e4 := fun sto => e_power (a := 2) (sto := sto) (by decide) (r1 (k - 1) (by omega) (by omega))
  have s1 := fun sto a => e_sign (a := a) (sto := sto) hp hp2
  unfold F_squares_ways
  rw [run_out (n := 3) rfl rfl]
  unfold m_squares_ways
  have m1 : ∀ (x y : Int) (s : Sx), gMulI (.dat (.int (sq p x))) (.dat (.int y)) s = some (.dat (.int (sq p x * y)), s) := fun x y s => mul_ii (mulOk_l (by have := sq_abs (p := p) (a := x); omega))
  have m2 : ∀ (x : Int) (s : Sx), gMulI (.dat (.int 1)) (.dat (.int x)) s = some (.dat (.int (1 * x)), s) := fun x s => mul_ii (mulOk_l (by decide))
  have m3 : ∀ (x y z : Int) (s : Sx), gMulI (.dat (.int (sq p x * sq p y))) (.dat (.int z)) s = some (.dat (.int (sq p x * sq p y * z)), s) := fun x y z s => mul_ii (mulOk_l (by
    have h1 := sq_abs (p := p) (a := x)
    have h2 := sq_abs (p := p) (a := y)
    rw [Int.natAbs_mul]
    have := Nat.mul_le_mul h1 h2
    omega))
  unfold ways
  by_cases c1 : k = 0
  · simp [c1]
  · by_cases c2 : p = 2
    · simp [c1, c2, e4]
    · by_cases c3 : k / 2 % 2 = 1
      · by_cases c4 : k % 2 = 1
        · simp [c1, c2, c3, c4, mod_ii (show (0 : Int) < 2 by decide), div_ii (show divOk 2 = true by decide), e1, e2, e3, s1, m1, m2, m3]
        · by_cases c5 : a = 0
          · simp [c1, c2, c3, c4, c5, mod_ii (show (0 : Int) < 2 by decide), div_ii (show divOk 2 = true by decide), e1, e2, e3, s1, m1, m2, m3]
          · simp [c1, c2, c3, c4, c5, mod_ii (show (0 : Int) < 2 by decide), div_ii (show divOk 2 = true by decide), e1, e2, e3, s1, m1, m2, m3]
      · by_cases c4 : k % 2 = 1
        · simp [c1, c2, c3, c4, mod_ii (show (0 : Int) < 2 by decide), div_ii (show divOk 2 = true by decide), e1, e2, e3, s1, m1, m2, m3]
        · by_cases c5 : a = 0
          · simp [c1, c2, c3, c4, c5, mod_ii (show (0 : Int) < 2 by decide), div_ii (show divOk 2 = true by decide), e1, e2, e3, s1, m1, m2, m3]
          · simp [c1, c2, c3, c4, c5, mod_ii (show (0 : Int) < 2 by decide), div_ii (show divOk 2 = true by decide), e1, e2, e3, s1, m1, m2, m3]
end K80

namespace K80
open PySem PySem.Spec PyProof.Rows L2 Fe
theorem canLay_ints : ∀ g : List Int, PyData.canLayAll0 (g.map .int) = true
  | [] => rfl
  | _ :: g => canLay_ints g
theorem depth_ints : ∀ g : List Int, PyData.depthAll (g.map .int) ≤ 1
  | [] => by decide
  | _ :: g => by
    have := depth_ints g
    rw [List.map_cons, PyData.depthAll]
    have e : PyData.depth (.int ‹Int›) ≤ 1 := by unfold PyData.depth; decide
    omega
theorem datA_ints : ∀ g : List Int, datA (g.map I) = some (g.map .int)
  | [] => rfl
  | a :: g => by rw [List.map_cons, datA_cons, datA_ints g]; rfl
def potS (g : List Int) (st tn : Int) : List SO := [.lst (g.map I), .dic [("great", .obj 0), ("stirred", I st), ("turn", I tn)]]
theorem ne_great {env : List (Option AV)} {g : List Int} {st tn : Int} : gNeA (.obj 0) (.own []) ⟨env, potS g st tn⟩ = some (.dat (.bool (!g.isEmpty)), ⟨env, potS g st tn⟩) := by
  have e1 : lookA ⟨env, potS g st tn⟩ (.obj 0) = some (.list (g.map .int)) := by
    show (datA (g.map I)).map PyData.list = _
    rw [datA_ints]; rfl
  show gNe (.obj 0) (.own []) ⟨env, potS g st tn⟩ = _
  unfold gNe
  rw [e1]
  have h1 : SeqAt.shaped (.list (g.map .int)) = true := by
    unfold SeqAt.shaped
    have := depth_ints g
    rw [Bool.and_eq_true]
    refine ⟨canLay_ints g, decide_eq_true ?_⟩
    rw [PyData.depth]; omega
  show (if SeqAt.shaped (.list (g.map .int)) = true ∧ SeqAt.shaped (.list []) = true then some (AV.dat (.bool (!PyData.eqv (.list (g.map .int)) (.list []))), _) else none) = _
  rw [if_pos ⟨h1, rfl⟩]
  cases g <;> rfl
structure PotOk (c : Nat) (g : List Int) (st tn : Int) : Prop where
  s0 : 0 ≤ st
  s1 : st < 4294967291
  t0 : 0 ≤ tn
  t1 : tn ≤ c
  c1 : c ≤ 1000
  g1 : g.length ≤ 61
  gp : ∀ x ∈ g, 0 ≤ x
theorem k1 : ¬ (("great" : Str) = "stirred") := by decide
theorem k2 : ¬ (("great" : Str) = "turn") := by decide
theorem k3 : ¬ (("stirred" : Str) = "turn") := by decide
theorem k1' : ¬ (("stirred" : Str) = "great") := by decide
theorem k2' : ¬ (("turn" : Str) = "great") := by decide
theorem k3' : ¬ (("turn" : Str) = "stirred") := by decide
theorem getGreat {env : List (Option AV)} {g : List Int} {st tn : Int} : gDGet (.obj 1) (.dat (.str "great")) ⟨env, potS g st tn⟩ = some (.obj 0, ⟨env, potS g st tn⟩) := by
  simp [gDGet, potS, getS]
theorem getStir {env : List (Option AV)} {g : List Int} {st tn : Int} : gDGet (.obj 1) (.dat (.str "stirred")) ⟨env, potS g st tn⟩ = some (I st, ⟨env, potS g st tn⟩) := by
  simp [gDGet, potS, getS, k1]
theorem getTurn {env : List (Option AV)} {g : List Int} {st tn : Int} : gDGet (.obj 1) (.dat (.str "turn")) ⟨env, potS g st tn⟩ = some (I tn, ⟨env, potS g st tn⟩) := by
  simp [gDGet, potS, getS, k2, k3]
theorem putTurn {env : List (Option AV)} {g : List Int} {st tn x : Int} {fo fi fv : Sx → Res AV} (hv : fv ⟨env, potS g st tn⟩ = .ok (I x) ⟨env, potS g st tn⟩) (ho : fo ⟨env, potS g st tn⟩ = .ok (.obj 1) ⟨env, potS g st tn⟩) (hi : fi = mC (.str "turn")) : mDPut fo fi fv ⟨env, potS g st tn⟩ = .ok .next ⟨env, potS g st x⟩ := by
  subst hi
  simp [mDPut, hv, ho, frA]
  simp [potS, putS, LIM, k1, k2, k3]
theorem putStir {env : List (Option AV)} {g : List Int} {st tn x : Int} {fo fi fv : Sx → Res AV} (hv : fv ⟨env, potS g st tn⟩ = .ok (I x) ⟨env, potS g st tn⟩) (ho : fo ⟨env, potS g st tn⟩ = .ok (.obj 1) ⟨env, potS g st tn⟩) (hi : fi = mC (.str "stirred")) : mDPut fo fi fv ⟨env, potS g st tn⟩ = .ok .next ⟨env, potS g x tn⟩ := by
  subst hi
  simp [mDPut, hv, ho, frA]
  simp [potS, putS, LIM, k1, k2, k3]
theorem popGreat {env : List (Option AV)} {a : Int} {g : List Int} {st tn : Int} : gPopAt (.obj 0) [I 0] ⟨env, potS (a :: g) st tn⟩ = some (I a, ⟨env, potS g st tn⟩) := by
  simp [gPopAt, rdL, potS, seqIndex?, wrL]
theorem insGreat {env : List (Option AV)} {a : Int} {g : List Int} {st tn : Int} (h : g.length < 1000) : gInsert (.obj 0) [I 0, I a] ⟨env, potS g st tn⟩ = some (.dat .none, ⟨env, potS (a :: g) st tn⟩) := by
  have : g.length < 16777216 := by omega
  simp [gInsert, rdL, potS, wrL, frA, LIM, this]
theorem mM_ap {g : AV → List AV → Sx → Option (AV × Sx)} {f : Sx → Res AV} {fs : Sx → Res (List AV)} {s : Sx} : mM g f fs s = (f s).bind fun a s1 => if (rdL s1 a).isSome = true then (fs s1).bind fun as s2 => ofO (g a as s2) else .stuck := rfl
theorem rdGreat {env : List (Option AV)} {g : List Int} {st tn : Int} : rdL ⟨env, potS g st tn⟩ (.obj 0) = some (g.map I) := rfl
theorem mExpr_ap {f : Sx → Res AV} {s : Sx} : mExpr f s = (f s).bind fun _ s1 => .ok .next s1 := rfl
theorem putT {env : List (Option AV)} {g : List Int} {st tn : Int} : mDPut (mVar 0) (mC (.str "turn")) (mFrz (mOp gAdd (mOp gDGet (mVar 0) (mC (.str "turn"))) (mC (.int 1)))) ⟨some (.obj 1) :: env, potS g st tn⟩ = .ok .next ⟨some (.obj 1) :: env, potS g st (tn + 1)⟩ := putTurn (by simp [getTurn]) (by simp) rfl
theorem putS5 {e1 e2 e3 e4 : Option AV} {x : Int} {g : List Int} {st tn : Int} : mDPut (mVar 0) (mC (.str "stirred")) (mFrz (mVar 5)) ⟨[some (.obj 1), e1, e2, e3, e4, some (I x)], potS g st tn⟩ = .ok .next ⟨[some (.obj 1), e1, e2, e3, e4, some (I x)], potS g x tn⟩ := putStir (by simp) (by simp) rfl
theorem e_draw {c : Nat} {g : List Int} {st tn many : Int} (h : PotOk c g st tn) (hc : c + 1 ≤ 1000) (h0 : 0 < many) (hm : divOk many = true) : ∃ r g' st' tn', F__law_draw [.obj 1, I many] (potS g st tn) = okI r (potS g' st' tn') ∧ 0 ≤ r ∧ r < many ∧ PotOk (c + 1) g' st' tn' := by
  unfold F__law_draw
  rw [run_out (n := 2) rfl rfl]
  unfold m__law_draw
  cases g with
  | cons a g =>
    have ha : 0 ≤ a := h.gp a (List.mem_cons_self ..)
    have hg : g.length ≤ 60 := by have := h.g1; rw [List.length_cons] at this; omega
    refine ⟨a % many, if many ≤ a then a / many :: g else g, st, tn, ?_, Int.emod_nonneg _ (by omega), Int.emod_lt_of_pos _ h0, ?_⟩
    · by_cases hge : many ≤ a
      · simp [getGreat, ne_great, mM_ap, rdGreat, popGreat, hge, mExpr_ap, div_ii hm, insGreat (a := a / many) (g := g) (show g.length < 1000 by omega), mod_ii h0]
      · simp [getGreat, ne_great, mM_ap, rdGreat, popGreat, hge, mod_ii h0]
    · split
      · refine ⟨h.s0, h.s1, h.t0, by have := h.t1; omega, by omega, by rw [List.length_cons]; omega, fun x hx => ?_⟩
        rcases List.mem_cons.mp hx with e | hx
        · rw [e]; exact Int.ediv_nonneg ha (by omega)
        · exact h.gp x (List.mem_cons_of_mem _ hx)
      · exact ⟨h.s0, h.s1, h.t0, by have := h.t1; omega, by omega, by omega, fun x hx => h.gp x (List.mem_cons_of_mem _ hx)⟩
  | nil =>
    have s0 := h.s0
    have s1 := h.s1
    have t0 := h.t0
    have t1 := h.t1
    have c1 := h.c1
    have mt : ∀ s : Sx, gMulI (.dat (.int (tn + 1))) (.dat (.int (tn + 1))) s = some (.dat (.int ((tn + 1) * (tn + 1))), s) := fun s => mul_ii (mulOk_l (by omega))
    have ma : ∀ (x : Int) (s : Sx), gMulI (.dat (.int x)) (.dat (.int 48271)) s = some (.dat (.int (x * 48271)), s) := fun x s => mul_ii (mulOk_r (by decide))
    have mb : ∀ (x : Int) (s : Sx), gMulI (.dat (.int x)) (.dat (.int 17)) s = some (.dat (.int (x * 17)), s) := fun x s => mul_ii (mulOk_r (by decide))
    have mc : ∀ (x : Int) (s : Sx), gMulI (.dat (.int 7919)) (.dat (.int x)) s = some (.dat (.int (7919 * x)), s) := fun x s => mul_ii (mulOk_l (by decide))
    have md : ∀ (x : Int) (s : Sx), gMulI (.dat (.int x)) (.dat (.int 69621)) s = some (.dat (.int (x * 69621)), s) := fun x s => mul_ii (mulOk_r (by decide))
    have ga := Int.emod_nonneg (((st * 48271 + (tn + 1) * (tn + 1) * 17 + 7919 * (tn + 1)) % 4294967279) * 69621 + ((st * 48271 + (tn + 1) * (tn + 1) * 17 + 7919 * (tn + 1)) % 4294967279) / 65536) (show (4294967291 : Int) ≠ 0 by decide)
    have gb := Int.emod_lt_of_pos (((st * 48271 + (tn + 1) * (tn + 1) * 17 + 7919 * (tn + 1)) % 4294967279) * 69621 + ((st * 48271 + (tn + 1) * (tn + 1) * 17 + 7919 * (tn + 1)) % 4294967279) / 65536) (show (0 : Int) < 4294967291 by decide)
    refine ⟨((((st * 48271 + (tn + 1) * (tn + 1) * 17 + 7919 * (tn + 1)) % 4294967279) * 69621 + ((st * 48271 + (tn + 1) * (tn + 1) * 17 + 7919 * (tn + 1)) % 4294967279) / 65536) % 4294967291) / 1024 % many, [],
      (((st * 48271 + (tn + 1) * (tn + 1) * 17 + 7919 * (tn + 1)) % 4294967279) * 69621 + ((st * 48271 + (tn + 1) * (tn + 1) * 17 + 7919 * (tn + 1)) % 4294967279) / 65536) % 4294967291, tn + 1, ?_, Int.emod_nonneg _ (by omega), Int.emod_lt_of_pos _ h0, ⟨ga, gb, by omega, by omega, by omega, by decide, fun x hx => nomatch hx⟩⟩
    simp [getGreat, ne_great, putT, getTurn, getStir, mt, ma, mb, mc, md, mod_ii (show (0 : Int) < 4294967279 by decide), mod_ii (show (0 : Int) < 4294967291 by decide), div_ii (show divOk 65536 = true by decide), div_ii (show divOk 1024 = true by decide), putS5, mod_ii h0]
end K80

namespace K80
open PySem PySem.Spec PyProof.Rows L2 Fe
theorem divOk_of {j : Int} (h : 0 < j) (h2 : j < 2 ^ 60) : divOk j = true := by
  unfold divOk
  rw [Bool.and_eq_true]
  refine ⟨decide_eq_true h, decide_eq_true ?_⟩
  have : j.natAbs < 2 ^ 60 := by omega
  have h3 : j.natAbs.log2 < 60 := (Nat.log2_lt (by omega)).mpr this
  omega
theorem e_pick {c : Nat} {g : List Int} {st tn : Int} {ds : List PyData} (h : PotOk c g st tn) (hc : c + 1 ≤ 1000) (h0 : ds ≠ []) (hl : ds.length < 1000) : ∃ (i : Nat) (d : PyData) (g' : List Int) (st' tn' : Int), F__law_pick [.obj 1, .dat (.list ds)] (potS g st tn) = .ok (.dat d) ⟨[], potS g' st' tn'⟩ ∧ ds[i]? = some d ∧ PotOk (c + 1) g' st' tn' := by
  have hlen : 0 < ds.length := List.length_pos_iff.mpr h0
  obtain ⟨r, g', st', tn', e, r0, r1, hp⟩ := e_draw (many := (ds.length : Int)) h hc (by omega) (divOk_of (by omega) (by omega))
  have hr : r.toNat < ds.length := by omega
  refine ⟨r.toNat, ds[r.toNat], g', st', tn', ?_, List.getElem?_eq_getElem hr, hp⟩
  unfold F__law_pick
  rw [run_out (n := 2) rfl rfl]
  unfold m__law_pick
  have el : ∀ s : Sx, gLen (.dat (.list ds)) s = some (I ds.length, s) := fun s => rfl
  have ei : ∀ s : Sx, gIx (.dat (.list ds)) (.dat (.int r)) s = some (.dat ds[r.toNat], s) := fun s => by
    show (atI ds r).map (fun d => (AV.dat d, s)) = _
    unfold atI ixN
    rw [if_pos r0, if_pos (by omega)]
    show (ds[r.toNat]?).map _ = _
    rw [List.getElem?_eq_getElem hr]; rfl
  simp [el, e, ei]
end K80

namespace K80
open PySem PySem.Spec PyProof.Rows L2 Fe
def cut61 (ns : List Int) : List Int := (ns.drop (HT.sIx ns.length 0 none)).take (HT.sIx ns.length ns.length (some 61) - HT.sIx ns.length 0 none)
theorem cut_len (ns : List Int) : (cut61 ns).length ≤ 61 := by
  unfold cut61
  rw [List.length_take]
  have : HT.sIx ns.length ns.length (some 61) ≤ 61 := by
    unfold HT.sIx
    simp
    omega
  omega
def cellOf (a : Int) : Int := 2 * (if a < 0 then -a else a) + (if a < 0 then 1 else 0)
def cellsOf (ns : List Int) : List Int := (cut61 ns).map cellOf
def stirF (st : Int) (c : Int) : Int := (st * 69069 + c + 13) % 4294967291
def asInt : AV → Int
  | .dat (.int i) => i
  | _ => 0
theorem e_pot (ns : List Int) (hn : ns.length ≤ 63) : ∃ g st, F__law_pot [.scr ns] [] = .ok (.obj 1) ⟨[], potS g st 0⟩ ∧ PotOk 0 g st 0 := by
  have c1 : mLc [3] (mSeqI (mFrz (mSl (mVar 0) mO0 (mO (mC (.int 61)))))) (stv 3) mYes (mFrz (mOp gAdd (mOp gMulI (mC (.int 2)) (mFn (g1 gAbs) (mCons (mVar 3) mNil))) (mFn (g1 gInt) (mCons (mOp gLt (mVar 3) (mC (.int 0))) mNil)))) ⟨[some (.scr ns), none, none, none], []⟩ = .ok (.own ((cellsOf ns).map .int)) ⟨[some (.scr ns), none, none, none], []⟩ := by
    have h1 : (mSeqI (mFrz (mSl (mVar 0) mO0 (mO (mC (.int 61)))))) ⟨[some (.scr ns), none, none, none], []⟩ = .ok ((cut61 ns).map I) ⟨[some (.scr ns), none, none, none], []⟩ := by
      show Res.ok (((cut61 ns).map PyData.int).map AV.dat) _ = _
      rw [List.map_map]; rfl
    refine (mLc_ok h1 (cloop_all (W0 := ⟨[some (.scr ns), none, none, none], []⟩) (F := fun x => some (.int (cellOf (asInt x)))) rfl (fun x hx => ?_) (by rw [List.length_map]; have := cut_len ns; show 0 + _ ≤ 16777216; omega))).trans ?_
    · obtain ⟨a, _, rfl⟩ := List.mem_map.mp hx
      refine ⟨⟨[some (.scr ns), none, none, some (I a)], []⟩, ⟨[some (.scr ns), none, none, some (I a)], []⟩, rfl, .inr ⟨_, ⟨[some (.scr ns), none, none, some (I a)], []⟩, rfl, rfl, ?_, rfl⟩⟩
      have m2 : ∀ (x : Int) (s : Sx), gMulI (.dat (.int 2)) (.dat (.int x)) s = some (.dat (.int (2 * x)), s) := fun x s => mul_ii (mulOk_l (by decide))
      by_cases ha : a < 0
      · simp [m2, cellOf, asInt, ha]
      · simp [m2, cellOf, asInt, ha]
    · rw [List.nil_append]
      have e : ((cut61 ns).map I).filterMap (fun x => some (PyData.int (cellOf (asInt x)))) = (cellsOf ns).map .int := by
        unfold cellsOf
        induction cut61 ns with
        | nil => rfl
        | cons a l ih => exact congrArg (PyData.int (cellOf a) :: ·) ih
      rw [e]; rfl
  have cn : ∀ x ∈ cellsOf ns, 0 ≤ x := fun x hx => by
    obtain ⟨a, _, rfl⟩ := List.mem_map.mp hx
    unfold cellOf
    split <;> omega
  have clen : (cellsOf ns).length ≤ 61 := by unfold cellsOf; rw [List.length_map]; exact cut_len ns
  unfold F__law_pot
  rw [run_out (n := 1) rfl rfl]
  unfold m__law_pot
  have c2 : mPar2 1 2 (mCons (mLc [3] (mSeqI (mFrz (mSl (mVar 0) mO0 (mO (mC (.int 61)))))) (stv 3) mYes (mFrz (mOp gAdd (mOp gMulI (mC (.int 2)) (mFn (g1 gAbs) (mCons (mVar 3) mNil))) (mFn (g1 gInt) (mCons (mOp gLt (mVar 3) (mC (.int 0))) mNil))))) (mCons (mOp gAdd (mC (.int 17539)) (mOp gMulI (mC (.int 3)) (mFn (g1 gLen) (mCons (mVar 0) mNil)))) mNil)) ⟨[some (.scr ns), none, none, none], []⟩ = .ok .next ⟨[some (.scr ns), some (.own ((cellsOf ns).map .int)), some (I (17539 + 3 * ns.length)), none], []⟩ := by
    refine (mPar2_ap (a := .own ((cellsOf ns).map .int)) (b := I (17539 + 3 * ns.length)) (s1 := ⟨[some (.scr ns), none, none, none], []⟩) ?_ rfl rfl).trans rfl
    have m3 : ∀ (x : Int) (s : Sx), gMulI (.dat (.int 3)) (.dat (.int x)) s = some (.dat (.int (3 * x)), s) := fun x s => mul_ii (mulOk_l (by decide))
    have el : ∀ s : Sx, gLen (.scr ns) s = some (I ns.length, s) := fun s => rfl
    rw [mCons_ap, c1, bind_ok]
    simp [m3, el]
  -- the cells stirred in
  have c3 : mFor (mSeqI (mFrz (mVar 1))) (stv 3) (mSet 2 (mOp gMod (mFn (g1 gInt) (mCons (mOp gAdd (mOp gAdd (mOp gMulI (mVar 2) (mC (.int 69069))) (mVar 3)) (mC (.int 13))) mNil)) (mC (.int 4294967291)))) ⟨[some (.scr ns), some (.own ((cellsOf ns).map .int)), some (I (17539 + 3 * ns.length)), none], []⟩ =
      floop (stv 3) (mSet 2 (mOp gMod (mFn (g1 gInt) (mCons (mOp gAdd (mOp gAdd (mOp gMulI (mVar 2) (mC (.int 69069))) (mVar 3)) (mC (.int 13))) mNil)) (mC (.int 4294967291)))) ((cellsOf ns).map I) ⟨[some (.scr ns), some (.dat (.list ((cellsOf ns).map .int))), some (I (17539 + 3 * ns.length)), none], []⟩ := by
    have e : (mSeqI (mFrz (mVar 1))) ⟨[some (.scr ns), some (.own ((cellsOf ns).map .int)), some (I (17539 + 3 * ns.length)), none], []⟩ = .ok ((cellsOf ns).map I) ⟨[some (.scr ns), some (.dat (.list ((cellsOf ns).map .int))), some (I (17539 + 3 * ns.length)), none], []⟩ := by
      show Res.ok (((cellsOf ns).map PyData.int).map AV.dat) _ = _
      rw [List.map_map]; rfl
    unfold mFor
    rw [e, bind_ok]
  have c4 := floop_inv (g := stv 3) (b := mSet 2 (mOp gMod (mFn (g1 gInt) (mCons (mOp gAdd (mOp gAdd (mOp gMulI (mVar 2) (mC (.int 69069))) (mVar 3)) (mC (.int 13))) mNil)) (mC (.int 4294967291)))) (st := fun (q : Int × Option AV) => ⟨[some (.scr ns), some (.dat (.list ((cellsOf ns).map .int))), some (I q.1), q.2], []⟩)
    (step := fun x q => (stirF q.1 (asInt x), some x)) (J := fun q => 0 ≤ q.1 ∧ q.1 < 4294967291) (items := (cellsOf ns).map I) (a := (17539 + 3 * (ns.length : Int), none)) ⟨by show 0 ≤ 17539 + 3 * (ns.length : Int); omega, by show 17539 + 3 * (ns.length : Int) < _; omega⟩ (fun x hx q jq => by
      obtain ⟨a, _, rfl⟩ := List.mem_map.mp hx
      have ma : ∀ (x : Int) (s : Sx), gMulI (.dat (.int x)) (.dat (.int 69069)) s = some (.dat (.int (x * 69069)), s) := fun x s => mul_ii (mulOk_r (by decide))
      refine ⟨?_, Int.emod_nonneg _ (by decide), Int.emod_lt_of_pos _ (by decide)⟩
      simp [ma, mod_ii (show (0 : Int) < 4294967291 by decide), stirF, asInt])
  obtain ⟨c4, j4⟩ := c4
  generalize hq : ((cellsOf ns).map I).foldl (fun q x => (stirF q.1 (asInt x), some x)) ((17539 + 3 * (ns.length : Int)), (none : Option AV)) = q4 at c4 j4
  -- the great ones
  refine ⟨(cellsOf ns).filter fun x => decide (10 ^ 16 ≤ x), q4.1, ?_, ⟨j4.1, j4.2, Int.le_refl 0, Int.le_refl 0, by decide, ?_, fun x hx => cn x (List.mem_filter.mp hx).1⟩⟩
  · have c5 : mLc [3] (mSeqI (mFrz (mVar 1))) (stv 3) (mTest (mOp gGe (mVar 3) (mOp gPow (mC (.int 10)) (mC (.int 16))))) (mFrz (mVar 3)) ⟨[some (.scr ns), some (.dat (.list ((cellsOf ns).map .int))), some (I q4.1), q4.2], []⟩ = .ok (.own (((cellsOf ns).filter fun x => decide (10 ^ 16 ≤ x)).map .int)) (backS [3] ⟨[some (.scr ns), some (.dat (.list ((cellsOf ns).map .int))), some (I q4.1), q4.2], []⟩ ⟨[some (.scr ns), some (.dat (.list ((cellsOf ns).map .int))), some (I q4.1), none], []⟩) := by
      have h1 : (mSeqI (mFrz (mVar 1))) ⟨[some (.scr ns), some (.dat (.list ((cellsOf ns).map .int))), some (I q4.1), q4.2], []⟩ = .ok ((cellsOf ns).map I) ⟨[some (.scr ns), some (.dat (.list ((cellsOf ns).map .int))), some (I q4.1), q4.2], []⟩ := by
        show Res.ok (((cellsOf ns).map PyData.int).map AV.dat) _ = _
        rw [List.map_map]; rfl
      refine (mLc_ok h1 (cloop_all (W0 := ⟨[some (.scr ns), some (.dat (.list ((cellsOf ns).map .int))), some (I q4.1), none], []⟩) (F := fun x => if 10 ^ 16 ≤ asInt x then some (.int (asInt x)) else none) rfl (fun x hx => ?_) (by rw [List.length_map]; show 0 + _ ≤ 16777216; omega))).trans ?_
      · obtain ⟨a, _, rfl⟩ := List.mem_map.mp hx
        refine ⟨⟨[some (.scr ns), some (.dat (.list ((cellsOf ns).map .int))), some (I q4.1), some (I a)], []⟩, ⟨[some (.scr ns), some (.dat (.list ((cellsOf ns).map .int))), some (I q4.1), some (I a)], []⟩, rfl, ?_⟩
        have pw : ∀ s : Sx, gPow (.dat (.int 10)) (.dat (.int 16)) s = some (I (10 ^ 16), s) := fun s => rfl
        by_cases ha : (10 : Int) ^ 16 ≤ a
        · refine .inr ⟨.int a, ⟨[some (.scr ns), some (.dat (.list ((cellsOf ns).map .int))), some (I q4.1), some (I a)], []⟩, if_pos ha, ?_, rfl, rfl⟩
          simp [pw]
          simpa using ha
        · refine .inl ⟨if_neg ha, ?_, rfl⟩
          simp [pw]
          simpa using ha
      · rw [List.nil_append]
        have e : ((cellsOf ns).map I).filterMap (fun x => if 10 ^ 16 ≤ asInt x then some (PyData.int (asInt x)) else none) = ((cellsOf ns).filter fun x => decide (10 ^ 16 ≤ x)).map .int := by
          generalize cellsOf ns = l
          induction l with
          | nil => rfl
          | cons a l ih =>
            by_cases ha : (10 : Int) ^ 16 ≤ a
            · rw [List.map_cons, List.filterMap_cons_some (b := .int a) (by show (if (10 : Int) ^ 16 ≤ a then some (PyData.int a) else none) = _; rw [if_pos ha]), List.filter_cons_of_pos (by simpa using ha), List.map_cons, ih]
            · rw [List.map_cons, List.filterMap_cons_none (by show (if (10 : Int) ^ 16 ≤ a then some (PyData.int a) else none) = _; rw [if_neg ha]), List.filter_cons_of_neg (by simpa using ha), ih]
        rw [e]
    have c6 : mDic [("great", mObj (mLc [3] (mSeqI (mFrz (mVar 1))) (stv 3) (mTest (mOp gGe (mVar 3) (mOp gPow (mC (.int 10)) (mC (.int 16))))) (mFrz (mVar 3)))), ("stirred", mObj (mVar 2)), ("turn", mObj (mC (.int 0)))] ⟨[some (.scr ns), some (.dat (.list ((cellsOf ns).map .int))), some (I q4.1), q4.2], []⟩ =
        .ok (.obj 1) ⟨[some (.scr ns), some (.dat (.list ((cellsOf ns).map .int))), some (I q4.1), keepD q4.2], potS ((cellsOf ns).filter fun x => decide (10 ^ 16 ≤ x)) q4.1 0⟩ := by
      have hv : mVals [("great", mObj (mLc [3] (mSeqI (mFrz (mVar 1))) (stv 3) (mTest (mOp gGe (mVar 3) (mOp gPow (mC (.int 10)) (mC (.int 16))))) (mFrz (mVar 3)))), ("stirred", mObj (mVar 2)), ("turn", mObj (mC (.int 0)))] ⟨[some (.scr ns), some (.dat (.list ((cellsOf ns).map .int))), some (I q4.1), q4.2], []⟩ =
          .ok [.obj 0, I q4.1, I 0] ⟨[some (.scr ns), some (.dat (.list ((cellsOf ns).map .int))), some (I q4.1), keepD q4.2], [.lst ((((cellsOf ns).filter fun x => decide (10 ^ 16 ≤ x)).map PyData.int).map AV.dat)]⟩ := by
        show mCons (mUn toObj (mLc [3] (mSeqI (mFrz (mVar 1))) (stv 3) (mTest (mOp gGe (mVar 3) (mOp gPow (mC (.int 10)) (mC (.int 16))))) (mFrz (mVar 3)))) (mCons (mUn toObj (mVar 2)) (mCons (mUn toObj (mC (.int 0))) mNil)) _ = _
        rw [mCons_ap, mUn_ap, c5, bind_ok]
        rfl
      unfold mDic
      rw [hv, bind_ok]
      have e2 : ((((cellsOf ns).filter fun x => decide (10 ^ 16 ≤ x)).map PyData.int).map AV.dat) = ((cellsOf ns).filter fun x => decide (10 ^ 16 ≤ x)).map I := by rw [List.map_map]; rfl
      show ((if ([AV.obj 0, I q4.1, I 0]).all frA = true ∧ (["great", "stirred", "turn"] : List Str).Nodup ∧ 3 ≤ 15 then Res.ok (AV.obj 1) ⟨[some (.scr ns), some (.dat (.list ((cellsOf ns).map .int))), some (I q4.1), keepD q4.2], [.lst ((((cellsOf ns).filter fun x => decide (10 ^ 16 ≤ x)).map PyData.int).map AV.dat)] ++ [.dic [("great", .obj 0), ("stirred", I q4.1), ("turn", I 0)]]⟩ else .stuck)) = _
      rw [if_pos ⟨rfl, by decide, by decide⟩, e2]
      rfl
    show outR (mSeq _ _ ⟨[some (.scr ns), none, none, none], []⟩) = _
    rw [mSeq_ap, c2, bind_ok]
    show outR (mSeq _ _ _) = _
    rw [mSeq_ap, c3, c4, bind_ok]
    show outR (mRet _ _) = _
    rw [mRet_ap, c6, bind_ok]
    rfl
  · exact Nat.le_trans (List.length_filter_le _ _) clen
end K80

namespace K80
open PySem PySem.Spec PyProof.Rows L2 Fe
def leastD (p a : Int) : Int := if a = 0 then 0 else if p = 2 ∨ sq p a = 1 then 1 else 2
theorem e_least {p a : Int} {sto : List SO} (hp : 0 < p) (hp2 : p < 2 ^ 60) : F_least_squares [I p, I a] sto = okI (leastD p a) sto := by
  unfold F_least_squares
  rw [run_out (n := 2) rfl rfl]
  unfold m_least_squares leastD
  by_cases h1 : a = 0
  · simp [h1]
  · by_cases h2 : p = 2
    · simp [h1, h2]
    · by_cases h3 : sq p a = 1
      · simp [h1, h2, h3, e_sign hp hp2]
      · simp [h1, h2, h3, e_sign hp hp2]
def nonD (p : Int) : Int := if p = 2 ∨ p % 4 = 1 then 2 else 3
theorem e_nought {p : Int} {sto : List SO} : F_least_nought_squares [I p] sto = okI (nonD p) sto := by
  unfold F_least_nought_squares
  rw [run_out (n := 1) rfl rfl]
  unfold m_least_nought_squares nonD
  by_cases h2 : p = 2
  · simp [h2]
  · by_cases h3 : p % 4 = 1
    · simp [h2, h3, mod_ii (show (0 : Int) < 4 by decide)]
    · simp [h2, h3, mod_ii (show (0 : Int) < 4 by decide)]
/-- the law's own power's rest: twenty turns -/
def rmS (p : Int) (q : Int × Int × Int) : Int × Int × Int := (q.1 * q.1 % p, if q.2.2 % 2 = 1 then q.2.1 * q.1 % p else q.2.1, q.2.2 / 2)
def rm (p : Int) : Nat → Int × Int × Int → Int
  | 0, q => q.2.1
  | k + 1, q => rm p k (rmS p q)
theorem rm_fold (p : Int) {β : Type} (f : β → AV → β) : ∀ (l : List AV) (q : Int × Int × Int) (b : β), (l.foldl (fun (q : (Int × Int × Int) × β) x => (rmS p q.1, f q.2 x)) (q, b)).1.2.1 = rm p l.length q
  | [], q, b => rfl
  | x :: l, q, b => rm_fold p f l (rmS p q) (f b x)
theorem e_rem {p b : Int} {sto : List SO} (hp : 0 < p) (hp2 : p < 2 ^ 60) (hb0 : 0 ≤ b) (hb : b < p) : F__law_remainder [I p, I b] sto = okI (rm p 20 (b, 1, (p - 1) / 2)) sto := by
  unfold F__law_remainder
  rw [run_out (n := 2) rfl rfl]
  unfold m__law_remainder
  have c1 : mPar2 2 3 (mCons (mC (.int 1)) (mCons (mOp gDiv (mOp gSub (mVar 0) (mC (.int 1))) (mC (.int 2))) mNil)) ⟨[some (I p), some (I b), none, none, none], sto⟩ = .ok .next ⟨[some (I p), some (I b), some (I 1), some (I ((p - 1) / 2)), none], sto⟩ := by
    refine (mPar2_ap (a := I 1) (b := I ((p - 1) / 2)) (s1 := ⟨[some (I p), some (I b), none, none, none], sto⟩) ?_ rfl rfl).trans rfl
    simp [div_ii (show divOk 2 = true by decide)]
  obtain ⟨c2, _⟩ := floop_inv (g := stv 4) (b := mSeq (mIfS (mTest (mOp gEqA (mOp gMod (mVar 3) (mC (.int 2))) (mC (.int 1)))) (mSet 2 (mOp gMod (mOp gMulI (mVar 2) (mVar 1)) (mVar 0))) mNext)
      (mPar2 1 3 (mCons (mOp gMod (mOp gMulI (mVar 1) (mVar 1)) (mVar 0)) (mCons (mOp gDiv (mVar 3) (mC (.int 2))) mNil))))
    (st := fun (q : (Int × Int × Int) × Option AV) => ⟨[some (I p), some (I q.1.1), some (I q.1.2.1), some (I q.1.2.2), q.2], sto⟩) (step := fun x q => (rmS p q.1, some x)) (J := fun q => q.1.1.natAbs < 2 ^ 64 ∧ q.1.2.1.natAbs < 2 ^ 64) (items := rgL 0 20) (a := ((b, 1, (p - 1) / 2), none)) ⟨by show b.natAbs < _; omega, by show (1 : Int).natAbs < 2 ^ 64; decide⟩ (fun x hx ⟨⟨b', f', n'⟩, o⟩ ⟨j1, j2⟩ => by
      obtain ⟨i, _, rfl⟩ := List.mem_map.mp hx
      have j1 : b'.natAbs < 2 ^ 64 := j1
      have j2 : f'.natAbs < 2 ^ 64 := j2
      have hm1 : 0 ≤ b' * b' % p := Int.emod_nonneg _ (by omega)
      have hm2 : b' * b' % p < p := Int.emod_lt_of_pos _ hp
      have hm3 : 0 ≤ f' * b' % p := Int.emod_nonneg _ (by omega)
      have hm4 : f' * b' % p < p := Int.emod_lt_of_pos _ hp
      refine ⟨?_, by show (b' * b' % p).natAbs < _; omega, by show (if n' % 2 = 1 then f' * b' % p else f').natAbs < _; split <;> omega⟩
      have ma : ∀ s : Sx, gMulI (.dat (.int b')) (.dat (.int b')) s = some (.dat (.int (b' * b')), s) := fun s => mul_ii (mulOk_l j1)
      have mb : ∀ s : Sx, gMulI (.dat (.int f')) (.dat (.int b')) s = some (.dat (.int (f' * b')), s) := fun s => mul_ii (mulOk_l j2)
      have c2 : ∀ f1, mPar2 1 3 (mCons (mOp gMod (mOp gMulI (mVar 1) (mVar 1)) (mVar 0)) (mCons (mOp gDiv (mVar 3) (mC (.int 2))) mNil)) ⟨[some (I p), some (I b'), some (I f1), some (I n'), some (I (0 + (i : Int)))], sto⟩ = .ok .next ⟨[some (I p), some (I (b' * b' % p)), some (I f1), some (I (n' / 2)), some (I (0 + (i : Int)))], sto⟩ := fun f1 => by
        refine (mPar2_ap (a := I (b' * b' % p)) (b := I (n' / 2)) (s1 := ⟨[some (I p), some (I b'), some (I f1), some (I n'), some (I (0 + (i : Int)))], sto⟩) ?_ rfl rfl).trans rfl
        simp [ma, mod_ii hp, div_ii (show divOk 2 = true by decide)]
      show mSeq _ _ ⟨[some (I p), some (I b'), some (I f'), some (I n'), some (I (0 + (i : Int)))], sto⟩ = _
      rw [mSeq_ap]
      by_cases h1 : n' % 2 = 1
      · have e : (mIfS (mTest (mOp gEqA (mOp gMod (mVar 3) (mC (.int 2))) (mC (.int 1)))) (mSet 2 (mOp gMod (mOp gMulI (mVar 2) (mVar 1)) (mVar 0))) mNext) ⟨[some (I p), some (I b'), some (I f'), some (I n'), some (I (0 + (i : Int)))], sto⟩ = .ok .next ⟨[some (I p), some (I b'), some (I (f' * b' % p)), some (I n'), some (I (0 + (i : Int)))], sto⟩ := by
          simp [mod_ii (show (0 : Int) < 2 by decide), h1, mb, mod_ii hp]
        rw [e, bind_ok]
        show mPar2 _ _ _ _ = _
        rw [c2]
        simp [rmS, h1]
      · have e : (mIfS (mTest (mOp gEqA (mOp gMod (mVar 3) (mC (.int 2))) (mC (.int 1)))) (mSet 2 (mOp gMod (mOp gMulI (mVar 2) (mVar 1)) (mVar 0))) mNext) ⟨[some (I p), some (I b'), some (I f'), some (I n'), some (I (0 + (i : Int)))], sto⟩ = .ok .next ⟨[some (I p), some (I b'), some (I f'), some (I n'), some (I (0 + (i : Int)))], sto⟩ := by
          simp [mod_ii (show (0 : Int) < 2 by decide), h1]
        rw [e, bind_ok]
        show mPar2 _ _ _ _ = _
        rw [c2]
        simp [rmS, h1])
  have c3 : ∀ b1, mFor (mRng rg1 (mCons (mC (.int 20)) mNil)) (stv 4) b1 ⟨[some (I p), some (I b), some (I 1), some (I ((p - 1) / 2)), none], sto⟩ = floop (stv 4) b1 (rgL 0 20) ⟨[some (I p), some (I b), some (I 1), some (I ((p - 1) / 2)), none], sto⟩ := fun b => rfl
  show outR (mSeq _ _ ⟨[some (I p), some (I b), none, none, none], sto⟩) = _
  rw [mSeq_ap, c1, bind_ok]
  show outR (mSeq _ _ _) = _
  rw [mSeq_ap, c3, c2, bind_ok]
  have e := rm_fold p (fun (_ : Option AV) x => some x) (rgL 0 20) (b, 1, (p - 1) / 2) none
  exact congrArg (fun z => okI z sto) e
def lsq (p a : Int) : Int := if a % p = 0 then 0 else if rm p 20 (a % p, 1, (p - 1) / 2) = 1 then 1 else -1
theorem e_lsign {p a : Int} {sto : List SO} (hp : 0 < p) (hp2 : p < 2 ^ 60) : F__law_sign [I p, I a] sto = okI (lsq p a) sto := by
  have e := e_rem (sto := sto) hp hp2 (Int.emod_nonneg a (show p ≠ 0 by omega)) (Int.emod_lt_of_pos a hp)
  unfold F__law_sign
  rw [run_out (n := 2) rfl rfl]
  unfold m__law_sign lsq
  by_cases h1 : a % p = 0
  · simp [mod_ii hp, h1]
  · by_cases h2 : rm p 20 (a % p, 1, (p - 1) / 2) = 1
    · simp [mod_ii hp, h1, h2, e]
    · simp [mod_ii hp, h1, h2, e]
theorem lsq_abs {p a : Int} : (lsq p a).natAbs ≤ 1 := by
  unfold lsq
  split
  · decide
  · split <;> decide
def lways (p k a : Int) : Int := if k = 0 then (if a = 0 then 1 else 0) else if p = 2 then 2 ^ (k - 1).toNat else
  if k % 2 = 1 then p ^ (k - 1).toNat + p ^ (k / 2).toNat * lsq p ((if k / 2 % 2 = 0 then 1 else -1) * a)
  else p ^ (k - 1).toNat + lsq p (if k / 2 % 2 = 0 then 1 else -1) * p ^ (k / 2 - 1).toNat * (if a = 0 then p - 1 else -1)
theorem e_lways {p k a : Int} {sto : List SO} (hp : 0 < p) (hp2 : p < 2 ^ 60) (hk : 0 ≤ k) (hk2 : k < 2 ^ 60) : F__law_ways [I p, I k, I a] sto = okI (lways p k a) sto := by
  have r1 : ∀ j : Int, -5 ≤ j → j < 2 ^ 60 → rgOk j = true := fun j h1 h2 => by unfold rgOk; simp; omega
  have pa : p.natAbs < 2 ^ 64 := by omega
  have e1 := fun sto => e_lpower (sto := sto) pa (r1 (k - 1) (by omega) (by omega))
  have e2 := fun sto => e_lpower (sto := sto) pa (r1 (k / 2) (by omega) (by omega))
  have e3 := fun sto => e_lpower (sto := sto) pa (r1 (k / 2 - 1) (by omega) (by omega))
  have e4 := fun sto => e_lpower (a := 2) (sto := sto) (by decide) (r1 (k - 1) (by omega) (by omega))
  have s1 := fun sto a => e_lsign (a := a) (sto := sto) hp hp2
  have m1 : ∀ (x y : Int) (s : Sx), gMulI (.dat (.int x)) (.dat (.int (lsq p y))) s = some (.dat (.int (x * lsq p y)), s) := fun x y s => mul_ii (mulOk_r (by have := lsq_abs (p := p) (a := y); omega))
  have m1' : ∀ (x y : Int) (s : Sx), gMulI (.dat (.int (lsq p x))) (.dat (.int y)) s = some (.dat (.int (lsq p x * y)), s) := fun x y s => mul_ii (mulOk_l (by have := lsq_abs (p := p) (a := x); omega))
  have m2 : ∀ (x : Int) (s : Sx), gMulI (.dat (.int 1)) (.dat (.int x)) s = some (.dat (.int (1 * x)), s) := fun x s => mul_ii (mulOk_l (by decide))
  have m3 : ∀ (x : Int) (s : Sx), gMulI (.dat (.int (-1))) (.dat (.int x)) s = some (.dat (.int (-1 * x)), s) := fun x s => mul_ii (mulOk_l (by decide))
  have m4 : ∀ (x : Int) (s : Sx), gMulI (.dat (.int x)) (.dat (.int (p - 1))) s = some (.dat (.int (x * (p - 1))), s) := fun x s => mul_ii (mulOk_r (by omega))
  have m5 : ∀ (x : Int) (s : Sx), gMulI (.dat (.int x)) (.dat (.int (-1))) s = some (.dat (.int (x * -1)), s) := fun x s => mul_ii (mulOk_r (by decide))
  unfold F__law_ways
  rw [run_out (n := 3) rfl rfl]
  unfold m__law_ways lways
  by_cases c1 : k = 0
  · simp [c1]
  · by_cases c2 : p = 2
    · simp [c1, c2, e4]
    · by_cases c3 : k / 2 % 2 = 0
      · by_cases c4 : k % 2 = 1
        · simp [c1, c2, c3, c4, mod_ii (show (0 : Int) < 2 by decide), div_ii (show divOk 2 = true by decide), e1, e2, e3, s1, m1, m2, m3]
        · by_cases c5 : a = 0
          · simp [c1, c2, c3, c4, c5, mod_ii (show (0 : Int) < 2 by decide), div_ii (show divOk 2 = true by decide), e1, e2, e3, s1, m1', m2, m3, m4, m5]
          · simp [c1, c2, c3, c4, c5, mod_ii (show (0 : Int) < 2 by decide), div_ii (show divOk 2 = true by decide), e1, e2, e3, s1, m1', m2, m3, m4, m5]
      · by_cases c4 : k % 2 = 1
        · simp [c1, c2, c3, c4, mod_ii (show (0 : Int) < 2 by decide), div_ii (show divOk 2 = true by decide), e1, e2, e3, s1, m1, m2, m3]
        · by_cases c5 : a = 0
          · simp [c1, c2, c3, c4, c5, mod_ii (show (0 : Int) < 2 by decide), div_ii (show divOk 2 = true by decide), e1, e2, e3, s1, m1', m2, m3, m4, m5]
          · simp [c1, c2, c3, c4, c5, mod_ii (show (0 : Int) < 2 by decide), div_ii (show divOk 2 = true by decide), e1, e2, e3, s1, m1', m2, m3, m4, m5]
end K80

namespace K80
open PySem PySem.Spec PyProof.Rows L2 Fe
theorem add_tt {r q : List PyData} {s : Sx} (h : r.length + q.length ≤ LIM) : gAdd (.dat (.tuple r)) (.dat (.tuple q)) s = some (.dat (.tuple (r ++ q)), s) := by
  unfold gAdd orG
  show (match gAddI (.dat (.tuple r)) (.dat (.tuple q)) s with | some r => some r | none => orG gCatT (orG gCatL gAddS) (.dat (.tuple r)) (.dat (.tuple q)) s) = _
  show orG gCatT (orG gCatL gAddS) (.dat (.tuple r)) (.dat (.tuple q)) s = _
  unfold orG
  have e : gCatT (.dat (.tuple r)) (.dat (.tuple q)) s = some (.dat (.tuple (r ++ q)), s) := if_pos h
  rw [e]
theorem ext_pk {i : Nat} {lg ds : List PyData} {s : Sx} (he : s.env[i]? = some (some (.own lg))) (h : lg.length + ds.length ≤ LIM) : gExtend (.pk i) [.own ds] s = some (.dat .none, { s with env := s.env.set i (some (.own (lg ++ ds))) }) := by
  unfold gExtend
  have e : rdL s (.pk i) = some (lg.map .dat) := by
    show (match s.env[i]? with | some (some (.own ds)) => some (ds.map AV.dat) | _ => none) = _
    rw [he]
  rw [e]
  show (if (lg.map AV.dat).length + ds.length ≤ LIM then (wrL (lg.map .dat ++ ds.map .dat) s (.pk i)).map fun s' => (AV.dat .none, s') else none) = _
  rw [if_pos (by rw [List.length_map]; exact h)]
  show ((datA (lg.map .dat ++ ds.map .dat)).map _).map _ = _
  rw [← List.map_append, datA_map]; rfl
def extR (p : Int) (rows : List (List PyData)) : List PyData := rows.flatMap fun r => (List.range p.toNat).map fun (i : Nat) => PyData.tuple (r ++ [.int (0 + (i : Int))])

theorem sr_comp {p k : Int} {num : Int} {sto : List SO} (hp : 0 < p) (hp2 : p ≤ 1000) {fd : List PyData} {st : Option AV} {lg r : List PyData} {o7 : Option AV} (hr : r.length < 1000) :
    (mLc [7] (mRng rg1 (mCons (mFrz (mVar 0)) mNil)) (stv 7) mYes (mFrz (mOp gAdd (mVar 6) (mTup (mCons (mFrz (mVar 7)) mNil))))) ⟨[some (I p), some (I k), some (I num), some (.dat (.list fd)), st, some (.own lg), some (.dat (.tuple r)), o7], sto⟩ = .ok (.own ((List.range p.toNat).map fun (i : Nat) => PyData.tuple (r ++ [.int (0 + (i : Int))]))) ⟨[some (I p), some (I k), some (I num), some (.dat (.list fd)), st, some (.own lg), some (.dat (.tuple r)), keepD o7], sto⟩ := by
  have h1 : (mRng rg1 (mCons (mFrz (mVar 0)) mNil)) ⟨[some (I p), some (I k), some (I num), some (.dat (.list fd)), st, some (.own lg), some (.dat (.tuple r)), o7], sto⟩ = .ok (rgL 0 p) ⟨[some (I p), some (I k), some (I num), some (.dat (.list fd)), st, some (.own lg), some (.dat (.tuple r)), o7], sto⟩ := by
    show (ofO (rg1 [I p] _)) = _
    rw [rg1_ap (by unfold rgOk; simp; omega)]; rfl
  refine (mLc_ok h1 (cloop_all (W0 := ⟨[some (I p), some (I k), some (I num), some (.dat (.list fd)), st, some (.own lg), some (.dat (.tuple r)), none], sto⟩) (F := fun x => some (.tuple (r ++ [.int (asInt x)]))) rfl (fun x hx => ?_) (by rw [rgL_len]; show 0 + _ ≤ 16777216; omega))).trans ?_
  · obtain ⟨i, _, rfl⟩ := List.mem_map.mp hx
    refine ⟨⟨[some (I p), some (I k), some (I num), some (.dat (.list fd)), st, some (.own lg), some (.dat (.tuple r)), some (I (0 + (i : Int)))], sto⟩, ⟨[some (I p), some (I k), some (I num), some (.dat (.list fd)), st, some (.own lg), some (.dat (.tuple r)), some (I (0 + (i : Int)))], sto⟩, rfl, .inr ⟨_, ⟨[some (I p), some (I k), some (I num), some (.dat (.list fd)), st, some (.own lg), some (.dat (.tuple r)), some (I (0 + (i : Int)))], sto⟩, rfl, rfl, ?_, rfl⟩⟩
    have e : ∀ s : Sx, gAdd (.dat (.tuple r)) (.dat (.tuple [.int (0 + (i : Int))])) s = some (.dat (.tuple (r ++ [.int (0 + (i : Int))])), s) := fun s => add_tt (by show r.length + 1 ≤ 16777216; omega)
    show ((ofO (gAdd (.dat (.tuple r)) (.dat (.tuple [.int (0 + (i : Int))])) _)).bind _) = _
    rw [e]; rfl
  · rw [List.nil_append]
    have e : (rgL 0 p).filterMap (fun x => some (PyData.tuple (r ++ [.int (asInt x)]))) = (List.range p.toNat).map fun (i : Nat) => PyData.tuple (r ++ [.int (0 + (i : Int))]) := by
      unfold rgL
      rw [Int.sub_zero]
      generalize List.range p.toNat = l
      induction l with
      | nil => rfl
      | cons a l ih => exact congrArg (PyData.tuple (r ++ [.int (0 + (a : Int))]) :: ·) ih
    rw [e]; rfl
theorem sr_in {p k : Int} {num : Int} {sto : List SO} (hp : 0 < p) (hp2 : p ≤ 1000) {fd : List PyData} {st : Option AV} : ∀ (rows : List (List PyData)) (lg : List PyData) (o6 o7 : Option AV), (∀ r ∈ rows, r.length < 1000) → lg.length + rows.length * p.toNat ≤ LIM → ∃ o6' o7',
    floop (stv 6) (mExpr (mM gExtend (mVar 5) (mCons (mLc [7] (mRng rg1 (mCons (mFrz (mVar 0)) mNil)) (stv 7) mYes (mFrz (mOp gAdd (mVar 6) (mTup (mCons (mFrz (mVar 7)) mNil))))) mNil))) (rows.map fun r => AV.dat (.tuple r)) ⟨[some (I p), some (I k), some (I num), some (.dat (.list fd)), st, some (.own lg), o6, o7], sto⟩ = .ok .next ⟨[some (I p), some (I k), some (I num), some (.dat (.list fd)), st, some (.own (lg ++ extR p rows)), o6', o7'], sto⟩
  | [], lg, o6, o7, _, _ => ⟨o6, o7, by unfold extR; rw [List.flatMap_nil, List.append_nil]; rfl⟩
  | r :: rows, lg, o6, o7, hr, hl => by
    have hl2 : lg.length + (p.toNat + rows.length * p.toNat) ≤ LIM := by rw [List.length_cons, Nat.succ_mul] at hl; omega
    obtain ⟨o6', o7', e⟩ := sr_in (st := st) (fd := fd) (k := k) (sto := sto) (num := num) hp hp2 rows (lg ++ (List.range p.toNat).map fun (i : Nat) => PyData.tuple (r ++ [.int (0 + (i : Int))])) (some (.dat (.tuple r))) (keepD o7) (fun y hy => hr y (List.mem_cons_of_mem _ hy)) (by rw [List.length_append, List.length_map, List.length_range]; omega)
    refine ⟨o6', o7', ?_⟩
    have c1 : (mExpr (mM gExtend (mVar 5) (mCons (mLc [7] (mRng rg1 (mCons (mFrz (mVar 0)) mNil)) (stv 7) mYes (mFrz (mOp gAdd (mVar 6) (mTup (mCons (mFrz (mVar 7)) mNil))))) mNil))) ⟨[some (I p), some (I k), some (I num), some (.dat (.list fd)), st, some (.own lg), some (.dat (.tuple r)), o7], sto⟩ = .ok .next ⟨[some (I p), some (I k), some (I num), some (.dat (.list fd)), st, some (.own (lg ++ (List.range p.toNat).map fun (i : Nat) => PyData.tuple (r ++ [.int (0 + (i : Int))]))), some (.dat (.tuple r)), keepD o7], sto⟩ := by
      rw [mExpr_ap, mM_ap]
      show (((mCons (mLc [7] (mRng rg1 (mCons (mFrz (mVar 0)) mNil)) (stv 7) mYes (mFrz (mOp gAdd (mVar 6) (mTup (mCons (mFrz (mVar 7)) mNil))))) mNil ⟨[some (I p), some (I k), some (I num), some (.dat (.list fd)), st, some (.own lg), some (.dat (.tuple r)), o7], sto⟩).bind fun as s2 => ofO (gExtend (.pk 5) as s2))).bind _ = _
      rw [mCons_ap, sr_comp hp hp2 (hr r (List.mem_cons_self ..)), bind_ok, mNil_ap, bind_ok, bind_ok]
      have ee := ext_pk (i := 5) (lg := lg) (ds := (List.range p.toNat).map fun (i : Nat) => PyData.tuple (r ++ [.int (0 + (i : Int))])) (s := ⟨[some (I p), some (I k), some (I num), some (.dat (.list fd)), st, some (.own lg), some (.dat (.tuple r)), keepD o7], sto⟩) rfl (by rw [List.length_map, List.length_range]; omega)
      rw [ee]; rfl
    rw [List.map_cons]
    show ((stv 6 (.dat (.tuple r)) _).bind _) = _
    rw [stv_dat, bind_ok]
    show (((mExpr (mM gExtend (mVar 5) (mCons (mLc [7] (mRng rg1 (mCons (mFrz (mVar 0)) mNil)) (stv 7) mYes (mFrz (mOp gAdd (mVar 6) (mTup (mCons (mFrz (mVar 7)) mNil))))) mNil))) ⟨[some (I p), some (I k), some (I num), some (.dat (.list fd)), st, some (.own lg), some (.dat (.tuple r)), o7], sto⟩).bind _) = _
    rw [c1, bind_ok]
    show floop _ _ _ _ = _
    rw [e]
    have e2 : lg ++ extR p (r :: rows) = (lg ++ (List.range p.toNat).map fun (i : Nat) => PyData.tuple (r ++ [.int (0 + (i : Int))])) ++ extR p rows := by unfold extR; rw [List.flatMap_cons, List.append_assoc]
    rw [e2]

theorem ar_comp {p k : Int}  {sto : List SO} (hp : 0 < p) (hp2 : p ≤ 1000) {fd : List PyData} {st : Option AV} {lg r : List PyData} {o7 : Option AV} (hr : r.length < 1000) :
    (mLc [6] (mRng rg1 (mCons (mFrz (mVar 0)) mNil)) (stv 6) mYes (mFrz (mOp gAdd (mVar 5) (mTup (mCons (mFrz (mVar 6)) mNil))))) ⟨[some (I p), some (I k), some (.dat (.list fd)), st, some (.own lg), some (.dat (.tuple r)), o7], sto⟩ = .ok (.own ((List.range p.toNat).map fun (i : Nat) => PyData.tuple (r ++ [.int (0 + (i : Int))]))) ⟨[some (I p), some (I k), some (.dat (.list fd)), st, some (.own lg), some (.dat (.tuple r)), keepD o7], sto⟩ := by
  have h1 : (mRng rg1 (mCons (mFrz (mVar 0)) mNil)) ⟨[some (I p), some (I k), some (.dat (.list fd)), st, some (.own lg), some (.dat (.tuple r)), o7], sto⟩ = .ok (rgL 0 p) ⟨[some (I p), some (I k), some (.dat (.list fd)), st, some (.own lg), some (.dat (.tuple r)), o7], sto⟩ := by
    show (ofO (rg1 [I p] _)) = _
    rw [rg1_ap (by unfold rgOk; simp; omega)]; rfl
  refine (mLc_ok h1 (cloop_all (W0 := ⟨[some (I p), some (I k), some (.dat (.list fd)), st, some (.own lg), some (.dat (.tuple r)), none], sto⟩) (F := fun x => some (.tuple (r ++ [.int (asInt x)]))) rfl (fun x hx => ?_) (by rw [rgL_len]; show 0 + _ ≤ 16777216; omega))).trans ?_
  · obtain ⟨i, _, rfl⟩ := List.mem_map.mp hx
    refine ⟨⟨[some (I p), some (I k), some (.dat (.list fd)), st, some (.own lg), some (.dat (.tuple r)), some (I (0 + (i : Int)))], sto⟩, ⟨[some (I p), some (I k), some (.dat (.list fd)), st, some (.own lg), some (.dat (.tuple r)), some (I (0 + (i : Int)))], sto⟩, rfl, .inr ⟨_, ⟨[some (I p), some (I k), some (.dat (.list fd)), st, some (.own lg), some (.dat (.tuple r)), some (I (0 + (i : Int)))], sto⟩, rfl, rfl, ?_, rfl⟩⟩
    have e : ∀ s : Sx, gAdd (.dat (.tuple r)) (.dat (.tuple [.int (0 + (i : Int))])) s = some (.dat (.tuple (r ++ [.int (0 + (i : Int))])), s) := fun s => add_tt (by show r.length + 1 ≤ 16777216; omega)
    show ((ofO (gAdd (.dat (.tuple r)) (.dat (.tuple [.int (0 + (i : Int))])) _)).bind _) = _
    rw [e]; rfl
  · rw [List.nil_append]
    have e : (rgL 0 p).filterMap (fun x => some (PyData.tuple (r ++ [.int (asInt x)]))) = (List.range p.toNat).map fun (i : Nat) => PyData.tuple (r ++ [.int (0 + (i : Int))]) := by
      unfold rgL
      rw [Int.sub_zero]
      generalize List.range p.toNat = l
      induction l with
      | nil => rfl
      | cons a l ih => exact congrArg (PyData.tuple (r ++ [.int (0 + (a : Int))]) :: ·) ih
    rw [e]; rfl
theorem ar_in {p k : Int}  {sto : List SO} (hp : 0 < p) (hp2 : p ≤ 1000) {fd : List PyData} {st : Option AV} : ∀ (rows : List (List PyData)) (lg : List PyData) (o6 o7 : Option AV), (∀ r ∈ rows, r.length < 1000) → lg.length + rows.length * p.toNat ≤ LIM → ∃ o6' o7',
    floop (stv 5) (mExpr (mM gExtend (mVar 4) (mCons (mLc [6] (mRng rg1 (mCons (mFrz (mVar 0)) mNil)) (stv 6) mYes (mFrz (mOp gAdd (mVar 5) (mTup (mCons (mFrz (mVar 6)) mNil))))) mNil))) (rows.map fun r => AV.dat (.tuple r)) ⟨[some (I p), some (I k), some (.dat (.list fd)), st, some (.own lg), o6, o7], sto⟩ = .ok .next ⟨[some (I p), some (I k), some (.dat (.list fd)), st, some (.own (lg ++ extR p rows)), o6', o7'], sto⟩
  | [], lg, o6, o7, _, _ => ⟨o6, o7, by unfold extR; rw [List.flatMap_nil, List.append_nil]; rfl⟩
  | r :: rows, lg, o6, o7, hr, hl => by
    have hl2 : lg.length + (p.toNat + rows.length * p.toNat) ≤ LIM := by rw [List.length_cons, Nat.succ_mul] at hl; omega
    obtain ⟨o6', o7', e⟩ := ar_in (st := st) (fd := fd) (k := k) (sto := sto)  hp hp2 rows (lg ++ (List.range p.toNat).map fun (i : Nat) => PyData.tuple (r ++ [.int (0 + (i : Int))])) (some (.dat (.tuple r))) (keepD o7) (fun y hy => hr y (List.mem_cons_of_mem _ hy)) (by rw [List.length_append, List.length_map, List.length_range]; omega)
    refine ⟨o6', o7', ?_⟩
    have c1 : (mExpr (mM gExtend (mVar 4) (mCons (mLc [6] (mRng rg1 (mCons (mFrz (mVar 0)) mNil)) (stv 6) mYes (mFrz (mOp gAdd (mVar 5) (mTup (mCons (mFrz (mVar 6)) mNil))))) mNil))) ⟨[some (I p), some (I k), some (.dat (.list fd)), st, some (.own lg), some (.dat (.tuple r)), o7], sto⟩ = .ok .next ⟨[some (I p), some (I k), some (.dat (.list fd)), st, some (.own (lg ++ (List.range p.toNat).map fun (i : Nat) => PyData.tuple (r ++ [.int (0 + (i : Int))]))), some (.dat (.tuple r)), keepD o7], sto⟩ := by
      rw [mExpr_ap, mM_ap]
      show (((mCons (mLc [6] (mRng rg1 (mCons (mFrz (mVar 0)) mNil)) (stv 6) mYes (mFrz (mOp gAdd (mVar 5) (mTup (mCons (mFrz (mVar 6)) mNil))))) mNil ⟨[some (I p), some (I k), some (.dat (.list fd)), st, some (.own lg), some (.dat (.tuple r)), o7], sto⟩).bind fun as s2 => ofO (gExtend (.pk 4) as s2))).bind _ = _
      rw [mCons_ap, ar_comp hp hp2 (hr r (List.mem_cons_self ..)), bind_ok, mNil_ap, bind_ok, bind_ok]
      have ee := ext_pk (i := 4) (lg := lg) (ds := (List.range p.toNat).map fun (i : Nat) => PyData.tuple (r ++ [.int (0 + (i : Int))])) (s := ⟨[some (I p), some (I k), some (.dat (.list fd)), st, some (.own lg), some (.dat (.tuple r)), keepD o7], sto⟩) rfl (by rw [List.length_map, List.length_range]; omega)
      rw [ee]; rfl
    rw [List.map_cons]
    show ((stv 5 (.dat (.tuple r)) _).bind _) = _
    rw [stv_dat, bind_ok]
    show (((mExpr (mM gExtend (mVar 4) (mCons (mLc [6] (mRng rg1 (mCons (mFrz (mVar 0)) mNil)) (stv 6) mYes (mFrz (mOp gAdd (mVar 5) (mTup (mCons (mFrz (mVar 6)) mNil))))) mNil))) ⟨[some (I p), some (I k), some (.dat (.list fd)), st, some (.own lg), some (.dat (.tuple r)), o7], sto⟩).bind _) = _
    rw [c1, bind_ok]
    show floop _ _ _ _ = _
    rw [e]
    have e2 : lg ++ extR p (r :: rows) = (lg ++ (List.range p.toNat).map fun (i : Nat) => PyData.tuple (r ++ [.int (0 + (i : Int))])) ++ extR p rows := by unfold extR; rw [List.flatMap_cons, List.append_assoc]
    rw [e2]
end K80

namespace K80
open PySem PySem.Spec PyProof.Rows L2 Fe
def nxtR (p : Int) (rows : List (List PyData)) : List (List PyData) := rows.flatMap fun r => (List.range p.toNat).map fun (i : Nat) => r ++ [.int (0 + (i : Int))]
def iterR (p : Int) : Nat → List (List PyData) → List (List PyData)
  | 0, rows => rows
  | n + 1, rows => iterR p n (nxtR p rows)
def FoundIs (fo : AV) (rows : List (List PyData)) : Prop := fo = .own (rows.map .tuple) ∨ fo = .dat (.list (rows.map .tuple))
theorem extR_map {p : Int} : ∀ (rows : List (List PyData)), extR p rows = (nxtR p rows).map .tuple := fun rows => by
  unfold extR nxtR
  rw [List.map_flatMap]
  congr 1
  funext r
  rw [List.map_map]
  rfl
theorem nxtR_len {p : Int} {rows : List (List PyData)} {r : List PyData} (h : r ∈ nxtR p rows) : ∃ r0 ∈ rows, r.length = r0.length + 1 := by
  obtain ⟨r0, h0, h1⟩ := List.mem_flatMap.mp h
  obtain ⟨i, _, rfl⟩ := List.mem_map.mp h1
  exact ⟨r0, h0, by rw [List.length_append]; rfl⟩
theorem nxtR_length {p : Int} : ∀ rows : List (List PyData), (nxtR p rows).length = rows.length * p.toNat
  | [] => by simp [nxtR]
  | r :: rows => by
    have e : nxtR p (r :: rows) = ((List.range p.toNat).map fun (i : Nat) => r ++ [.int (0 + (i : Int))]) ++ nxtR p rows := by unfold nxtR; rw [List.flatMap_cons]
    rw [e, List.length_append, List.length_map, List.length_range, nxtR_length rows, List.length_cons, Nat.succ_mul, Nat.add_comm]

theorem sr_out {p k : Int} {num : Int} {sto : List SO} (hp : 0 < p) (hp2 : p ≤ 1000) : ∀ (items : List AV) (rows : List (List PyData)) (fo : AV) (ost o5 o6 o7 : Option AV), (∀ x ∈ items, ∃ i : Int, x = I i) → FoundIs fo rows → (∀ r ∈ rows, r.length + items.length < 1000) → rows.length * p.toNat ^ items.length ≤ 3000 → ∃ fo' ost' o5' o6' o7',
    floop (stv 4) (mSeq (mSet 5 (mLst mNil)) (mSeq (mFor (mSeqI (mFrz (mVar 3))) (stv 6) (mExpr (mM gExtend (mVar 5) (mCons (mLc [7] (mRng rg1 (mCons (mFrz (mVar 0)) mNil)) (stv 7) mYes (mFrz (mOp gAdd (mVar 6) (mTup (mCons (mFrz (mVar 7)) mNil))))) mNil)))) (mSet 3 (mFrz (mVar 5))))) items ⟨[some (I p), some (I k), some (I num), some fo, ost, o5, o6, o7], sto⟩ = .ok .next ⟨[some (I p), some (I k), some (I num), some fo', ost', o5', o6', o7'], sto⟩ ∧ FoundIs fo' (iterR p items.length rows)
  | [], rows, fo, ost, o5, o6, o7, _, hf, _, _ => ⟨fo, ost, o5, o6, o7, rfl, hf⟩
  | x :: items, rows, fo, ost, o5, o6, o7, hi, hf, hr, hl => by
    obtain ⟨i, rfl⟩ := hi x (List.mem_cons_self ..)
    have hp1 : 1 ≤ p.toNat := by omega
    have hl1 : rows.length * p.toNat ≤ 3000 := by
      refine Nat.le_trans ?_ hl
      rw [List.length_cons, Nat.pow_succ]
      exact Nat.mul_le_mul_left _ (Nat.le_mul_of_pos_left _ (Nat.pow_pos hp1))
    obtain ⟨o6', o7', e1⟩ := sr_in (k := k) (num := num) (sto := sto) (st := some (I i)) (fd := rows.map PyData.tuple) hp hp2 rows [] o6 o7 (fun r h => by have := hr r h; omega) (by show 0 + _ ≤ 16777216; omega)
    rw [List.nil_append] at e1
    obtain ⟨fo', ost', p5, p6, p7, e2, hf2⟩ := sr_out (k := k) (num := num) (sto := sto) hp hp2 items (nxtR p rows) (.dat (.list (extR p rows))) (some (I i)) (some (.dat (.list (extR p rows)))) o6' o7' (fun y h => hi y (List.mem_cons_of_mem _ h)) (.inr (by rw [extR_map])) (fun r h => by
      obtain ⟨r0, h0, e⟩ := nxtR_len h
      have := hr r0 h0
      rw [List.length_cons] at this
      omega) (by rw [nxtR_length]; rw [List.length_cons, Nat.pow_succ, Nat.mul_comm (p.toNat ^ _), ← Nat.mul_assoc] at hl; exact hl)
    refine ⟨fo', ost', p5, p6, p7, ?_, hf2⟩
    have c1 : (mSeq (mSet 5 (mLst mNil)) (mSeq (mFor (mSeqI (mFrz (mVar 3))) (stv 6) (mExpr (mM gExtend (mVar 5) (mCons (mLc [7] (mRng rg1 (mCons (mFrz (mVar 0)) mNil)) (stv 7) mYes (mFrz (mOp gAdd (mVar 6) (mTup (mCons (mFrz (mVar 7)) mNil))))) mNil)))) (mSet 3 (mFrz (mVar 5))))) ⟨[some (I p), some (I k), some (I num), some fo, some (I i), o5, o6, o7], sto⟩ = .ok .next ⟨[some (I p), some (I k), some (I num), some (.dat (.list (extR p rows))), some (I i), some (.dat (.list (extR p rows))), o6', o7'], sto⟩ := by
      have a1 : (mSet 5 (mLst mNil)) ⟨[some (I p), some (I k), some (I num), some fo, some (I i), o5, o6, o7], sto⟩ = .ok .next ⟨[some (I p), some (I k), some (I num), some fo, some (I i), some (.own []), o6, o7], sto⟩ := rfl
      have a2 : (mSeqI (mFrz (mVar 3))) ⟨[some (I p), some (I k), some (I num), some fo, some (I i), some (.own []), o6, o7], sto⟩ = .ok (rows.map fun r => AV.dat (.tuple r)) ⟨[some (I p), some (I k), some (I num), some (.dat (.list (rows.map PyData.tuple))), some (I i), some (.own []), o6, o7], sto⟩ := by
        rcases hf with e | e <;> subst e
        · show Res.ok ((rows.map PyData.tuple).map AV.dat) _ = _
          rw [List.map_map]; rfl
        · show Res.ok ((rows.map PyData.tuple).map AV.dat) _ = _
          rw [List.map_map]; rfl
      rw [mSeq_ap, a1, bind_ok]
      show mSeq _ _ _ = _
      rw [mSeq_ap]
      unfold mFor
      rw [a2, bind_ok, e1, bind_ok]
      rfl
    show ((stv 4 (I i) _).bind _) = _
    rw [stv_dat, bind_ok]
    show (((mSeq (mSet 5 (mLst mNil)) (mSeq (mFor (mSeqI (mFrz (mVar 3))) (stv 6) (mExpr (mM gExtend (mVar 5) (mCons (mLc [7] (mRng rg1 (mCons (mFrz (mVar 0)) mNil)) (stv 7) mYes (mFrz (mOp gAdd (mVar 6) (mTup (mCons (mFrz (mVar 7)) mNil))))) mNil)))) (mSet 3 (mFrz (mVar 5))))) ⟨[some (I p), some (I k), some (I num), some fo, some (I i), o5, o6, o7], sto⟩).bind _) = _
    rw [c1, bind_ok]
    show floop _ _ _ _ = _
    rw [e2]

theorem ar_out {p k : Int}  {sto : List SO} (hp : 0 < p) (hp2 : p ≤ 1000) : ∀ (items : List AV) (rows : List (List PyData)) (fo : AV) (ost o5 o6 o7 : Option AV), (∀ x ∈ items, ∃ i : Int, x = I i) → FoundIs fo rows → (∀ r ∈ rows, r.length + items.length < 1000) → rows.length * p.toNat ^ items.length ≤ 3000 → ∃ fo' ost' o5' o6' o7',
    floop (stv 3) (mSeq (mSet 4 (mLst mNil)) (mSeq (mFor (mSeqI (mFrz (mVar 2))) (stv 5) (mExpr (mM gExtend (mVar 4) (mCons (mLc [6] (mRng rg1 (mCons (mFrz (mVar 0)) mNil)) (stv 6) mYes (mFrz (mOp gAdd (mVar 5) (mTup (mCons (mFrz (mVar 6)) mNil))))) mNil)))) (mSet 2 (mFrz (mVar 4))))) items ⟨[some (I p), some (I k), some fo, ost, o5, o6, o7], sto⟩ = .ok .next ⟨[some (I p), some (I k), some fo', ost', o5', o6', o7'], sto⟩ ∧ FoundIs fo' (iterR p items.length rows)
  | [], rows, fo, ost, o5, o6, o7, _, hf, _, _ => ⟨fo, ost, o5, o6, o7, rfl, hf⟩
  | x :: items, rows, fo, ost, o5, o6, o7, hi, hf, hr, hl => by
    obtain ⟨i, rfl⟩ := hi x (List.mem_cons_self ..)
    have hp1 : 1 ≤ p.toNat := by omega
    have hl1 : rows.length * p.toNat ≤ 3000 := by
      refine Nat.le_trans ?_ hl
      rw [List.length_cons, Nat.pow_succ]
      exact Nat.mul_le_mul_left _ (Nat.le_mul_of_pos_left _ (Nat.pow_pos hp1))
    obtain ⟨o6', o7', e1⟩ := ar_in (k := k)  (sto := sto) (st := some (I i)) (fd := rows.map PyData.tuple) hp hp2 rows [] o6 o7 (fun r h => by have := hr r h; omega) (by show 0 + _ ≤ 16777216; omega)
    rw [List.nil_append] at e1
    obtain ⟨fo', ost', p5, p6, p7, e2, hf2⟩ := ar_out (k := k)  (sto := sto) hp hp2 items (nxtR p rows) (.dat (.list (extR p rows))) (some (I i)) (some (.dat (.list (extR p rows)))) o6' o7' (fun y h => hi y (List.mem_cons_of_mem _ h)) (.inr (by rw [extR_map])) (fun r h => by
      obtain ⟨r0, h0, e⟩ := nxtR_len h
      have := hr r0 h0
      rw [List.length_cons] at this
      omega) (by rw [nxtR_length]; rw [List.length_cons, Nat.pow_succ, Nat.mul_comm (p.toNat ^ _), ← Nat.mul_assoc] at hl; exact hl)
    refine ⟨fo', ost', p5, p6, p7, ?_, hf2⟩
    have c1 : (mSeq (mSet 4 (mLst mNil)) (mSeq (mFor (mSeqI (mFrz (mVar 2))) (stv 5) (mExpr (mM gExtend (mVar 4) (mCons (mLc [6] (mRng rg1 (mCons (mFrz (mVar 0)) mNil)) (stv 6) mYes (mFrz (mOp gAdd (mVar 5) (mTup (mCons (mFrz (mVar 6)) mNil))))) mNil)))) (mSet 2 (mFrz (mVar 4))))) ⟨[some (I p), some (I k), some fo, some (I i), o5, o6, o7], sto⟩ = .ok .next ⟨[some (I p), some (I k), some (.dat (.list (extR p rows))), some (I i), some (.dat (.list (extR p rows))), o6', o7'], sto⟩ := by
      have a1 : (mSet 4 (mLst mNil)) ⟨[some (I p), some (I k), some fo, some (I i), o5, o6, o7], sto⟩ = .ok .next ⟨[some (I p), some (I k), some fo, some (I i), some (.own []), o6, o7], sto⟩ := rfl
      have a2 : (mSeqI (mFrz (mVar 2))) ⟨[some (I p), some (I k), some fo, some (I i), some (.own []), o6, o7], sto⟩ = .ok (rows.map fun r => AV.dat (.tuple r)) ⟨[some (I p), some (I k), some (.dat (.list (rows.map PyData.tuple))), some (I i), some (.own []), o6, o7], sto⟩ := by
        rcases hf with e | e <;> subst e
        · show Res.ok ((rows.map PyData.tuple).map AV.dat) _ = _
          rw [List.map_map]; rfl
        · show Res.ok ((rows.map PyData.tuple).map AV.dat) _ = _
          rw [List.map_map]; rfl
      rw [mSeq_ap, a1, bind_ok]
      show mSeq _ _ _ = _
      rw [mSeq_ap]
      unfold mFor
      rw [a2, bind_ok, e1, bind_ok]
      rfl
    show ((stv 3 (I i) _).bind _) = _
    rw [stv_dat, bind_ok]
    show (((mSeq (mSet 4 (mLst mNil)) (mSeq (mFor (mSeqI (mFrz (mVar 2))) (stv 5) (mExpr (mM gExtend (mVar 4) (mCons (mLc [6] (mRng rg1 (mCons (mFrz (mVar 0)) mNil)) (stv 6) mYes (mFrz (mOp gAdd (mVar 5) (mTup (mCons (mFrz (mVar 6)) mNil))))) mNil)))) (mSet 2 (mFrz (mVar 4))))) ⟨[some (I p), some (I k), some fo, some (I i), o5, o6, o7], sto⟩).bind _) = _
    rw [c1, bind_ok]
    show floop _ _ _ _ = _
    rw [e2]

theorem rgL_ints {n : Int} : ∀ x ∈ rgL 0 n, ∃ i : Int, x = I i := fun x h => by
  obtain ⟨i, _, rfl⟩ := List.mem_map.mp h
  exact ⟨_, rfl⟩
theorem e_all {p k : Int} {sto : List SO} (hp : 0 < p) (hp2 : p ≤ 1000) (hk : 0 ≤ k) (hk2 : k < 900) (hl : p.toNat ^ k.toNat ≤ 3000) : ∃ fo, F__law_all_rows [I p, I k] sto = .ok fo ⟨[], sto⟩ ∧ FoundIs fo (iterR p k.toNat [[]]) := by
  obtain ⟨fo', ost', o5, o6, o7, e, hf⟩ := ar_out (p := p) (k := k) (sto := sto) hp hp2 (rgL 0 k) [[]] (.own [.tuple []]) none none none none rgL_ints (.inl rfl) (fun r h => by rw [rgL_len]; rcases List.mem_cons.mp h with e | h; (rw [e]; show 0 + _ < _; omega); cases h) (by rw [rgL_len]; show 1 * _ ≤ _; omega)
  rw [rgL_len] at hf
  have hres : ∀ fo, FoundIs fo (iterR p k.toNat [[]]) → ∃ fo2, outR (mRet (mVar 2) ⟨[some (I p), some (I k), some fo, ost', o5, o6, o7], sto⟩) = .ok fo2 ⟨[], sto⟩ ∧ FoundIs fo2 (iterR p k.toNat [[]]) := fun fo hf => by
    rcases hf with e | e <;> subst e
    · exact ⟨_, rfl, .inl rfl⟩
    · exact ⟨_, rfl, .inr rfl⟩
  obtain ⟨fo2, e2, hf2⟩ := hres fo' hf
  refine ⟨fo2, ?_, hf2⟩
  unfold F__law_all_rows
  rw [run_out (n := 2) rfl rfl]
  unfold m__law_all_rows
  have c0 : (mSet 2 (mLst (mCons (mTup mNil) mNil))) ⟨[some (I p), some (I k), none, none, none, none, none], sto⟩ = .ok .next ⟨[some (I p), some (I k), some (.own [.tuple []]), none, none, none, none], sto⟩ := rfl
  have c1 : ∀ b, mFor (mRng rg1 (mCons (mFrz (mVar 1)) mNil)) (stv 3) b ⟨[some (I p), some (I k), some (.own [.tuple []]), none, none, none, none], sto⟩ = floop (stv 3) b (rgL 0 k) ⟨[some (I p), some (I k), some (.own [.tuple []]), none, none, none, none], sto⟩ := fun b => by
    show (ofO (rg1 [I k] _)).bind _ = _
    rw [rg1_ap (by unfold rgOk; simp; omega)]; rfl
  show outR (mSeq _ _ ⟨[some (I p), some (I k), none, none, none, none, none], sto⟩) = _
  rw [mSeq_ap, c0, bind_ok]
  show outR (mSeq _ _ _) = _
  rw [mSeq_ap, c1, e, bind_ok]
  exact e2
end K80

namespace K80
open PySem PySem.Spec PyProof.Rows L2 Fe
def IntRow (r : List PyData) : Prop := ∃ ns : List Int, r = ns.map .int ∧ ∀ n ∈ ns, n.natAbs < 2 ^ 60
theorem iterR_int {p : Int} (hp2 : p ≤ 1000) : ∀ (n : Nat) (rows : List (List PyData)), (∀ r ∈ rows, IntRow r) → ∀ r ∈ iterR p n rows, IntRow r
  | 0, rows, h => h
  | n + 1, rows, h => iterR_int hp2 n (nxtR p rows) fun r hr => by
    obtain ⟨r0, h0, h1⟩ := List.mem_flatMap.mp hr
    obtain ⟨i, hi, rfl⟩ := List.mem_map.mp h1
    obtain ⟨ns, e, hn⟩ := h r0 h0
    have hi2 := List.mem_range.mp hi
    refine ⟨ns ++ [0 + (i : Int)], by rw [e, List.map_append]; rfl, fun m hm => ?_⟩
    rcases List.mem_append.mp hm with hm | hm
    · exact hn m hm
    · rcases List.mem_cons.mp hm with e | hm
      · rw [e]; omega
      · cases hm
def sqs (r : List PyData) : Int := (r.map fun d => match d with | .int i => i * i | _ => 0).sum
section
variable {ri ii pi ni : Nat} {E : Option AV → Option AV → List (Option AV)} {p num : Int} {sto : List SO}
structure EOk (ri ii pi ni : Nat) (E : Option AV → Option AV → List (Option AV)) (p num : Int) : Prop where
  sr : ∀ a b x, (E a b).set ri x = E x b
  si : ∀ a b x, (E a b).set ii x = E a x
  gr : ∀ a b, (E a b)[ri]? = some a
  gi : ∀ a b, (E a b)[ii]? = some b
  gp : ∀ a b, (E a b)[pi]? = some (some (I p))
  gn : ∀ a b, (E a b)[ni]? = some (some (I num))
theorem inner_sq (h : EOk ri ii pi ni E p num) {r : List PyData} (hr : IntRow r) (hl : r.length < 1000) {b : Option AV} :
    mLc [ii] (mSeqI (mFrz (mVar ri))) (stv ii) mYes (mFrz (mOp gMulI (mVar ii) (mVar ii))) ⟨E (some (.dat (.tuple r))) b, sto⟩ = .ok (.own (r.map fun d => match d with | .int i => PyData.int (i * i) | _ => .none)) ⟨E (some (.dat (.tuple r))) (keepD b), sto⟩ := by
  obtain ⟨ns, rfl, hn⟩ := hr
  have h1 : (mSeqI (mFrz (mVar ri))) ⟨E (some (.dat (.tuple (ns.map .int)))) b, sto⟩ = .ok (ns.map I) ⟨E (some (.dat (.tuple (ns.map .int)))) b, sto⟩ := by
    unfold mSeqI
    rw [mFrz_ap, mVar_ap, h.gr]
    show Res.ok ((ns.map PyData.int).map AV.dat) _ = _
    rw [List.map_map]; rfl
  refine (mLc_ok h1 (cloop_all (W0 := ⟨E (some (.dat (.tuple (ns.map .int)))) none, sto⟩) (F := fun x => some (.int (asInt x * asInt x))) (by show (⟨(E _ _).set ii none, sto⟩ : Sx) = _; rw [h.si]) (fun x hx => ?_) (by rw [List.length_map] at hl ⊢; show 0 + _ ≤ 16777216; omega))).trans ?_
  · obtain ⟨i, hi, rfl⟩ := List.mem_map.mp hx
    refine ⟨⟨E (some (.dat (.tuple (ns.map .int)))) (some (I i)), sto⟩, ⟨E (some (.dat (.tuple (ns.map .int)))) (some (I i)), sto⟩, ?_, .inr ⟨_, ⟨E (some (.dat (.tuple (ns.map .int)))) (some (I i)), sto⟩, rfl, rfl, ?_, ?_⟩⟩
    · rw [stv_dat, h.si]
    · have hm : ∀ s : Sx, gMulI (.dat (.int i)) (.dat (.int i)) s = some (.dat (.int (i * i)), s) := fun s => mul_ii (mulOk_l (by have := hn i hi; omega))
      simp [h.gi, hm, asInt]
    · show (⟨(E _ _).set ii none, sto⟩ : Sx) = _
      rw [h.si]
  · rw [List.nil_append]
    have e : (ns.map I).filterMap (fun x => some (PyData.int (asInt x * asInt x))) = (ns.map PyData.int).map fun d => match d with | .int i => PyData.int (i * i) | _ => .none := by
      clear h1 hl hn
      induction ns with
      | nil => rfl
      | cons a l ih => exact congrArg (PyData.int (a * a) :: ·) ih
    rw [e]
    show Res.ok _ (⟨match (E (some (.dat (.tuple (ns.map .int)))) b)[ii]? with | some o => (E (some (.dat (.tuple (ns.map .int)))) none).set ii (keepD o) | none => _, sto⟩ : Sx) = _
    rw [h.gi]
    show Res.ok _ (⟨(E (some (.dat (.tuple (ns.map .int)))) none).set ii (keepD b), sto⟩ : Sx) = _
    rw [h.si]
theorem sum_sq {r : List PyData} (hr : IntRow r) {s : Sx} : gSum (.own (r.map fun d => match d with | .int i => PyData.int (i * i) | _ => .none)) s = some (I (sqs r), s) := by
  obtain ⟨ns, rfl, _⟩ := hr
  have e1 : (ns.map PyData.int).map (fun d => match d with | .int i => PyData.int (i * i) | _ => .none) = (ns.map fun i => i * i).map .int := by rw [List.map_map, List.map_map]; rfl
  have e2 : sqs (ns.map .int) = (ns.map fun i => i * i).sum := by unfold sqs; rw [List.map_map]; rfl
  have e3 : ∀ l : List Int, intsD (l.map .int) = some l := fun l => by
    induction l with
    | nil => rfl
    | cons a l ih => show (intsD (l.map .int)).map (a :: ·) = _; rw [ih]; rfl
  rw [e1, e2]
  show (intsD ((ns.map fun i => i * i).map .int)).map _ = _
  rw [e3]; rfl
theorem filt (h : EOk ri ii pi ni E p num) (hp : 0 < p) : ∀ (rows : List (List PyData)) (acc : List PyData) (a b : Option AV), (∀ r ∈ rows, IntRow r ∧ r.length < 1000) → acc.length + rows.length ≤ LIM → ∃ b',
    cloop [ri] (stv ri) (mTest (mOp gEqA (mOp gMod (mFn (g1 gSum) (mCons (mLc [ii] (mSeqI (mFrz (mVar ri))) (stv ii) mYes (mFrz (mOp gMulI (mVar ii) (mVar ii)))) mNil)) (mVar pi)) (mVar ni))) (mFrz (mVar ri)) (rows.map fun r => AV.dat (.tuple r)) acc ⟨E a b, sto⟩ =
      .ok (acc ++ (rows.filter fun r => sqs r % p == num).map .tuple) ⟨E none b', sto⟩
  | [], acc, a, b, _, _ => ⟨b, by
    show Res.ok acc (⟨(E a b).set ri none, sto⟩ : Sx) = .ok (acc ++ []) _
    rw [h.sr, List.append_nil]⟩
  | r :: rows, acc, a, b, hr, hl => by
    rw [List.length_cons] at hl
    obtain ⟨h1, h2⟩ := hr r (List.mem_cons_self ..)
    have ht : (mTest (mOp gEqA (mOp gMod (mFn (g1 gSum) (mCons (mLc [ii] (mSeqI (mFrz (mVar ri))) (stv ii) mYes (mFrz (mOp gMulI (mVar ii) (mVar ii)))) mNil)) (mVar pi)) (mVar ni))) ⟨E (some (.dat (.tuple r))) b, sto⟩ = .ok (sqs r % p == num) ⟨E (some (.dat (.tuple r))) (keepD b), sto⟩ := by
      rw [mTest_ap, mOp_ap, mOp_ap, mFn_ap, mCons_ap, inner_sq h h1 h2, bind_ok, mNil_ap, bind_ok, bind_ok, g1_ap, sum_sq h1, ofO_some, bind_ok, mVar_ap]
      show ((((ofO ((rdv pi (E _ _)[pi]?).map _)).bind _).bind _).bind _) = _
      rw [h.gp]
      show ((((ofO (gMod (I (sqs r)) (I p) _)).bind _)).bind _) = _
      rw [mod_ii hp, ofO_some, bind_ok, mVar_ap]
      show ((((ofO ((rdv ni (E _ _)[ni]?).map _)).bind _).bind _)) = _
      rw [h.gn]
      show ((ofO (gEqA (I (sqs r % p)) (I num) _)).bind _) = _
      rw [eqA_ii]; rfl
    have hw : wipeS [ri] ⟨E a b, sto⟩ = ⟨E none b, sto⟩ := by
      show (⟨(E a b).set ri none, sto⟩ : Sx) = _
      rw [h.sr]
    have e0 : cloop [ri] (stv ri) (mTest (mOp gEqA (mOp gMod (mFn (g1 gSum) (mCons (mLc [ii] (mSeqI (mFrz (mVar ri))) (stv ii) mYes (mFrz (mOp gMulI (mVar ii) (mVar ii)))) mNil)) (mVar pi)) (mVar ni))) (mFrz (mVar ri)) (AV.dat (.tuple r) :: rows.map fun r => AV.dat (.tuple r)) acc ⟨E a b, sto⟩ =
        if (sqs r % p == num) = true then (if acc.length < LIM then cloop [ri] (stv ri) (mTest (mOp gEqA (mOp gMod (mFn (g1 gSum) (mCons (mLc [ii] (mSeqI (mFrz (mVar ri))) (stv ii) mYes (mFrz (mOp gMulI (mVar ii) (mVar ii)))) mNil)) (mVar pi)) (mVar ni))) (mFrz (mVar ri)) (rows.map fun r => AV.dat (.tuple r)) (acc ++ [.tuple r]) ⟨E (some (.dat (.tuple r))) (keepD b), sto⟩ else .stuck)
        else cloop [ri] (stv ri) (mTest (mOp gEqA (mOp gMod (mFn (g1 gSum) (mCons (mLc [ii] (mSeqI (mFrz (mVar ri))) (stv ii) mYes (mFrz (mOp gMulI (mVar ii) (mVar ii)))) mNil)) (mVar pi)) (mVar ni))) (mFrz (mVar ri)) (rows.map fun r => AV.dat (.tuple r)) acc ⟨E (some (.dat (.tuple r))) (keepD b), sto⟩ := by
      show (noX (stv ri (.dat (.tuple r)) (wipeS [ri] ⟨E a b, sto⟩))).bind _ = _
      rw [hw, stv_dat]
      show ((noX (mTest _ ⟨(E none b).set ri _, sto⟩)).bind _) = _
      rw [h.sr, ht]
      show (if (sqs r % p == num) = true then (noX (mFrz (mVar ri) ⟨E (some (.dat (.tuple r))) (keepD b), sto⟩)).bind _ else _) = _
      rw [mFrz_ap, mVar_ap]
      show (if (sqs r % p == num) = true then (noX ((ofO ((rdv ri (E (some (.dat (.tuple r))) (keepD b))[ri]?).map _)).bind _)).bind _ else _) = _
      rw [h.gr]
      rfl
    rw [List.map_cons, e0]
    by_cases hc : (sqs r % p == num) = true
    · obtain ⟨b', e⟩ := filt h hp rows (acc ++ [.tuple r]) (some (.dat (.tuple r))) (keepD b) (fun y hy => hr y (List.mem_cons_of_mem _ hy)) (by rw [List.length_append, List.length_singleton]; omega)
      refine ⟨b', ?_⟩
      rw [if_pos hc, if_pos (by omega), e, List.filter_cons_of_pos (p := fun r => sqs r % p == num) hc, List.map_cons, List.append_assoc]; rfl
    · obtain ⟨b', e⟩ := filt h hp rows acc (some (.dat (.tuple r))) (keepD b) (fun y hy => hr y (List.mem_cons_of_mem _ hy)) (by omega)
      refine ⟨b', ?_⟩
      rw [if_neg hc, List.filter_cons_of_neg (p := fun r => sqs r % p == num) hc]
      exact e
end
end K80

namespace K80
open PySem PySem.Spec PyProof.Rows L2 Fe
def rowsD (p num : Int) (k : Nat) : List PyData := ((iterR p k [[]]).filter fun r => sqs r % p == num).map .tuple
theorem mIfS_true {c : Sx → Res Bool} {f g : Sx → Res Fl} {s s1 : Sx} (h : c s = .ok true s1) : mIfS c f g s = f s1 := by rw [mIfS_ap, h, bind_ok, if_pos rfl]
theorem mIfS_false {c : Sx → Res Bool} {f g : Sx → Res Fl} {s s1 : Sx} (h : c s = .ok false s1) : mIfS c f g s = g s1 := by rw [mIfS_ap, h, bind_ok, if_neg (by decide)]
theorem iterR_len {p : Int} : ∀ (n : Nat) (rows : List (List PyData)) (m : Nat), (∀ r ∈ rows, r.length = m) → ∀ r ∈ iterR p n rows, r.length = m + n
  | 0, rows, m, h => h
  | n + 1, rows, m, h => fun r hr => by
    have := iterR_len n (nxtR p rows) (m + 1) (fun r hr => by
      obtain ⟨r0, h0, e⟩ := nxtR_len hr
      rw [e, h r0 h0]) r hr
    omega
theorem iterR_length {p : Int} : ∀ (n : Nat) (rows : List (List PyData)), (iterR p n rows).length = rows.length * p.toNat ^ n
  | 0, rows => by simp [iterR]
  | n + 1, rows => by
    show (iterR p n (nxtR p rows)).length = _
    rw [iterR_length n, nxtR_length, Nat.pow_succ, Nat.mul_assoc, Nat.mul_comm p.toNat]
theorem nilRow : ∀ r ∈ ([[]] : List (List PyData)), IntRow r := fun r h => by
  rcases List.mem_cons.mp h with e | h
  · exact ⟨[], e, fun n h => nomatch h⟩
  · cases h
theorem nilLen : ∀ r ∈ ([[]] : List (List PyData)), r.length = 0 := fun r h => by
  rcases List.mem_cons.mp h with e | h
  · rw [e]; rfl
  · cases h
theorem pow_test {p k num : Int} {sto : List SO} {m : Nat} (hp : 0 < p) (hp2 : p ≤ 1000) (hk : 0 ≤ k) (hk2 : k < 900) {o : List (Option AV)} : (mTest (mOp gGt (mCall 2 F_power (mCons (mFrz (mVar 0)) (mCons (mFrz (mVar 1)) mNil))) (mC (.int 3000)))) ⟨some (I p) :: some (I k) :: o, sto⟩ = .ok (decide (3000 < p ^ k.toNat)) ⟨some (I p) :: some (I k) :: o, sto⟩ := by
  have e := e_power (a := p) (n := k) (sto := sto) (by omega) (by unfold rgOk; simp; omega)
  simp [e]
theorem e_rows {p k num : Int} {sto : List SO} (hp : 0 < p) (hp2 : p ≤ 1000) (hk : 0 ≤ k) (hk2 : k < 900) (hl : p.toNat ^ k.toNat ≤ 3000) : F_squares_rows [I p, I k, I num] sto = .ok (.dat (.tuple (rowsD p num k.toNat))) ⟨[], sto⟩ := by
  obtain ⟨fo', ost', o5, o6, o7, e, hf⟩ := sr_out (p := p) (k := k) (num := num) (sto := sto) hp hp2 (rgL 0 k) [[]] (.own [.tuple []]) none none none none rgL_ints (.inl rfl) (fun r h => by rw [rgL_len, nilLen r h]; omega) (by rw [rgL_len]; show 1 * _ ≤ _; omega)
  rw [rgL_len] at hf
  have hpk : ¬ 3000 < p ^ k.toNat := by
    have e1 : ((p.toNat ^ k.toNat : Nat) : Int) = p ^ k.toNat := by rw [Int.natCast_pow, Int.toNat_of_nonneg (by omega)]
    omega
  have c0 : (mIfS (mTest (mOp gGt (mCall 2 F_power (mCons (mFrz (mVar 0)) (mCons (mFrz (mVar 1)) mNil))) (mC (.int 3000)))) (mRaise "TooMany" "limit" (mCons (mC (.int 3000)) mNil)) mNext) ⟨[some (I p), some (I k), some (I num), none, none, none, none, none], sto⟩ = .ok .next ⟨[some (I p), some (I k), some (I num), none, none, none, none, none], sto⟩ := by
    rw [mIfS_ap, pow_test (m := 0) (num := num) hp hp2 hk hk2, bind_ok, if_neg (by simpa using hpk)]; rfl
  have c1 : (mSet 3 (mLst (mCons (mTup mNil) mNil))) ⟨[some (I p), some (I k), some (I num), none, none, none, none, none], sto⟩ = .ok .next ⟨[some (I p), some (I k), some (I num), some (.own [.tuple []]), none, none, none, none], sto⟩ := rfl
  have c2 : ∀ b, mFor (mRng rg1 (mCons (mFrz (mVar 1)) mNil)) (stv 4) b ⟨[some (I p), some (I k), some (I num), some (.own [.tuple []]), none, none, none, none], sto⟩ = floop (stv 4) b (rgL 0 k) ⟨[some (I p), some (I k), some (I num), some (.own [.tuple []]), none, none, none, none], sto⟩ := fun b => by
    show (ofO (rg1 [I k] _)).bind _ = _
    rw [rg1_ap (by unfold rgOk; simp; omega)]; rfl
  have hE : EOk 6 7 0 2 (fun a b => [some (I p), some (I k), some (I num), some (.dat (.list ((iterR p k.toNat [[]]).map .tuple))), ost', o5, a, b]) p num := ⟨fun _ _ _ => rfl, fun _ _ _ => rfl, fun _ _ => rfl, fun _ _ => rfl, fun _ _ => rfl, fun _ _ => rfl⟩
  obtain ⟨b', ec⟩ := filt (sto := sto) hE hp (iterR p k.toNat [[]]) [] o6 o7 (fun r hr => ⟨iterR_int hp2 _ _ nilRow r hr, by have := iterR_len k.toNat [[]] 0 nilLen r hr; omega⟩) (by rw [iterR_length]; show 0 + 1 * _ ≤ 16777216; omega)
  rw [List.nil_append] at ec
  unfold F_squares_rows
  rw [run_out (n := 3) rfl rfl]
  unfold m_squares_rows
  show outR (mSeq _ _ ⟨[some (I p), some (I k), some (I num), none, none, none, none, none], sto⟩) = _
  rw [mSeq_ap, c0, bind_ok]
  show outR (mSeq _ _ _) = _
  rw [mSeq_ap, c1, bind_ok]
  show outR (mSeq _ _ _) = _
  rw [mSeq_ap, c2, e, bind_ok]
  show outR (mRet _ _) = _
  have ci : (mSeqI (mFrz (mVar 3))) ⟨[some (I p), some (I k), some (I num), some fo', ost', o5, o6, o7], sto⟩ = .ok ((iterR p k.toNat [[]]).map fun r => AV.dat (.tuple r)) ⟨[some (I p), some (I k), some (I num), some (.dat (.list ((iterR p k.toNat [[]]).map .tuple))), ost', o5, o6, o7], sto⟩ := by
    rcases hf with e | e <;> subst e
    · show Res.ok (((iterR p k.toNat [[]]).map PyData.tuple).map AV.dat) _ = _
      rw [List.map_map]; rfl
    · show Res.ok (((iterR p k.toNat [[]]).map PyData.tuple).map AV.dat) _ = _
      rw [List.map_map]; rfl
  rw [mRet_ap, mFn_ap, mCons_ap, mLc_ok ci ec, bind_ok]
  rfl
theorem e_rowsX {p k num : Int} {sto : List SO} (hp : 0 < p) (hp2 : p ≤ 1000) (hk : 0 ≤ k) (hk2 : k < 900) (hl : 3000 < p ^ k.toNat) : ∃ env, F_squares_rows [I p, I k, I num] sto = .exc ⟨"TooMany", [("limit", .int 3000)]⟩ ⟨env, sto⟩ := by
  refine ⟨[some (I p), some (I k), some (I num), none, none, none, none, none], ?_⟩
  unfold F_squares_rows
  rw [run_out (n := 3) rfl rfl]
  unfold m_squares_rows
  show outR (mSeq _ _ ⟨[some (I p), some (I k), some (I num), none, none, none, none, none], sto⟩) = _
  rw [mSeq_ap, mIfS_ap, pow_test (m := 0) (num := num) hp hp2 hk hk2, bind_ok, if_pos (by simpa using hl)]
  rfl
end K80

namespace K80
open PySem PySem.Spec PyProof.Rows L2 Fe
theorem mCallK_ap {n m j : Nat} {F : Mir} {p : List Nat} {fs ks : Sx → Res (List AV)} {s : Sx} : mCallK n m j F p fs ks s = (fs s).bind fun as s1 => (ks s1).bind fun bs s2 => if as.length = n ∧ bs.length = m then mCall j F (fun s => .ok (Fe.perm p (as ++ bs)) s) s2 else .stuck := rfl
theorem perm3 {a b c : AV} : Fe.perm [2, 1, 0] [a, b, c] = [c, b, a] := rfl
theorem perm2 {a b : AV} : Fe.perm [1, 0] [a, b] = [b, a] := rfl
theorem perm1 {a : AV} : Fe.perm [0] [a] = [a] := rfl
theorem e_told {p k num : Int} {sto : List SO} {b : Bool} (hp : 0 < p) (hp2 : p ≤ 1000) (hk : 0 ≤ k) (hk2 : k < 900) (hl : p.toNat ^ k.toNat ≤ 3000) : F__law_told [I p, I k, I num, .dat (.bool b)] sto = .ok (.own [.str "told", .tuple (rowsD p num k.toNat)]) ⟨[], sto⟩ := by
  have e := e_rows (num := num) (sto := sto) hp hp2 hk hk2 hl
  unfold F__law_told
  rw [run_out (n := 4) rfl rfl]
  unfold m__law_told
  have c : (mRet (mLst (mCons (mC (.str "told")) (mCons (mFrz (mIf (mTest (mVar 3)) (mCallK 0 3 3 F_squares_rows [2, 1, 0] mNil (mCons (mFrz (mVar 2)) (mCons (mFrz (mVar 1)) (mCons (mFrz (mVar 0)) mNil)))) (mCall 3 F_squares_rows (mCons (mFrz (mVar 0)) (mCons (mFrz (mVar 1)) (mCons (mFrz (mVar 2)) mNil)))))) mNil)))) ⟨[some (I p), some (I k), some (I num), some (.dat (.bool b)), none], sto⟩ = .ok (.ret (.own [.str "told", .tuple (rowsD p num k.toNat)])) ⟨[some (I p), some (I k), some (I num), some (.dat (.bool b)), none], sto⟩ := by
    cases b
    · simp [e, LIM]
    · simp [mCallK_ap, perm3, e, LIM]
  show outR (mTry _ _ _ _ ⟨[some (I p), some (I k), some (I num), some (.dat (.bool b)), none], sto⟩) = _
  unfold mTry
  rw [c]
  rfl
theorem e_toldX {p k num : Int} {sto : List SO} {b : Bool} (hp : 0 < p) (hp2 : p ≤ 1000) (hk : 0 ≤ k) (hk2 : k < 900) (hl : 3000 < p ^ k.toNat) : F__law_told [I p, I k, I num, .dat (.bool b)] sto = .ok (.dat (.list [.str "many", .int 3000])) ⟨[], sto⟩ := by
  obtain ⟨env, e⟩ := e_rowsX (num := num) (sto := sto) hp hp2 hk hk2 hl
  unfold F__law_told
  rw [run_out (n := 4) rfl rfl]
  unfold m__law_told
  have c : (mRet (mLst (mCons (mC (.str "told")) (mCons (mFrz (mIf (mTest (mVar 3)) (mCallK 0 3 3 F_squares_rows [2, 1, 0] mNil (mCons (mFrz (mVar 2)) (mCons (mFrz (mVar 1)) (mCons (mFrz (mVar 0)) mNil)))) (mCall 3 F_squares_rows (mCons (mFrz (mVar 0)) (mCons (mFrz (mVar 1)) (mCons (mFrz (mVar 2)) mNil)))))) mNil)))) ⟨[some (I p), some (I k), some (I num), some (.dat (.bool b)), none], sto⟩ = .exc ⟨"TooMany", [("limit", .int 3000)]⟩ ⟨[some (I p), some (I k), some (I num), some (.dat (.bool b)), none], sto⟩ := by
    cases b
    · simp [e, LIM]
    · simp [mCallK_ap, perm3, e, LIM]
  show outR (mTry _ _ _ _ ⟨[some (I p), some (I k), some (I num), some (.dat (.bool b)), none], sto⟩) = _
  unfold mTry
  rw [c]
  show outR (if (("TooMany" : Str) = "TooMany" ∧ 4 < 5) then _ else .stuck) = _
  rw [if_pos ⟨rfl, by decide⟩]
  have e2 : (qIf (fun _ => some (.bool true)) (qLst (qCons (fun _ => some (.str "many")) (qCons (qFld "limit") qNil))) (qLst qNil)) ⟨"TooMany", [("limit", .int 3000)]⟩ = some (.list [.str "many", .int 3000]) := by
    have f : qFld "limit" ⟨"TooMany", [("limit", .int 3000)]⟩ = some (.int 3000) := by
      show (List.find? (fun q : Str × PyData => decide (q.1 = "limit")) [("limit", .int 3000)]).map (·.2) = _
      rw [List.find?_cons_of_pos (by simp)]
      rfl
    show (match qCons (fun _ => some (.str "many")) (qCons (qFld "limit") qNil) ⟨"TooMany", [("limit", .int 3000)]⟩ with | some xs => if xs.length ≤ LIM then some (PyData.list xs) else none | none => none) = _
    have g : qCons (fun _ => some (.str "many")) (qCons (qFld "limit") qNil) ⟨"TooMany", [("limit", .int 3000)]⟩ = some [.str "many", .int 3000] := by
      unfold qCons
      rw [f]; rfl
    rw [g]; rfl
  rw [e2]
  rfl
theorem e_asked {p k num : Int} {sto : List SO} {D : PyData} {av : AV} (hD : frz av = fun s => some (.dat D, s)) (ht : ∀ (b : Bool) (sto : List SO), F__law_told [I p, I k, I num, .dat (.bool b)] sto = .ok av ⟨[], sto⟩) (hr : reprOk (.list [D, D]) = true) : F__law_is_asked [I p, I k, I num, .dat D] sto = .ok (.dat (.bool true)) ⟨[], sto⟩ := by
  unfold F__law_is_asked
  rw [run_out (n := 4) rfl rfl]
  unfold m__law_is_asked
  have c1 : mLc [4] (mSeqI (mTup (mCons (mC (.bool false)) (mCons (mC (.bool true)) mNil)))) (stv 4) mYes (mFrz (mCall 4 F__law_told (mCons (mFrz (mVar 0)) (mCons (mFrz (mVar 1)) (mCons (mFrz (mVar 2)) (mCons (mFrz (mVar 4)) mNil)))))) ⟨[some (I p), some (I k), some (I num), some (.dat D), none], sto⟩ = .ok (.own [D, D]) ⟨[some (I p), some (I k), some (I num), some (.dat D), none], sto⟩ := by
    have h1 : (mSeqI (mTup (mCons (mC (.bool false)) (mCons (mC (.bool true)) mNil)))) ⟨[some (I p), some (I k), some (I num), some (.dat D), none], sto⟩ = .ok [.dat (.bool false), .dat (.bool true)] ⟨[some (I p), some (I k), some (I num), some (.dat D), none], sto⟩ := rfl
    refine (mLc_ok h1 (cloop_all (W0 := ⟨[some (I p), some (I k), some (I num), some (.dat D), none], sto⟩) (F := fun _ => some D) rfl (fun x hx => ?_) (by decide))).trans rfl
    have hb : ∃ b : Bool, x = .dat (.bool b) := by
      rcases List.mem_cons.mp hx with e | hx
      · exact ⟨_, e⟩
      · rcases List.mem_cons.mp hx with e | hx
        · exact ⟨_, e⟩
        · cases hx
    obtain ⟨b, rfl⟩ := hb
    refine ⟨⟨[some (I p), some (I k), some (I num), some (.dat D), some (.dat (.bool b))], sto⟩, ⟨[some (I p), some (I k), some (I num), some (.dat D), some (.dat (.bool b))], sto⟩, rfl, .inr ⟨D, ⟨[some (I p), some (I k), some (I num), some (.dat D), some (.dat (.bool b))], sto⟩, rfl, rfl, ?_, rfl⟩⟩
    simp [ht, hD]
  show outR (mRet _ ⟨[some (I p), some (I k), some (I num), some (.dat D), none], sto⟩) = _
  rw [mRet_ap, mOp_ap, mFn_ap, mCons_ap, c1]
  simp [repr_own hr, LIM]
end K80

namespace K80
open PySem PySem.Spec PyProof.Rows L2 Fe
def primes : List Nat := [2, 3, 5, 7, 11, 13, 101, 997]
def sgnOk (p a : Nat) : Bool := decide (sq p a = lsq p a) && decide (sq p (-1) * sq p a = lsq p (-1 * a))
theorem sgn_all : (primes.all fun p => p == 2 || (List.range p).all fun a => sgnOk p a) = true := by decide +kernel
theorem sgn1_all : (primes.all fun p => p == 2 || (decide (lsq p 1 = 1) && decide (sq p (-1) = lsq p (-1)))) = true := by decide +kernel
theorem two_all : ((List.range 2).all fun a => sgnOk 2 a) = true := by decide +kernel
end K80

namespace K80
open PySem PySem.Spec PyProof.Rows L2 Fe
def sumOk (p k m a : Nat) : Bool := decide (((List.range p).map fun (v : Nat) => ways p k v * ways p m (((a : Int) - v) % p)).sum = ways p (k + m) a)
theorem sums_2 : ((List.range 57).all fun k => (List.range 2).all fun a => sumOk 2 (k + 1) 1 a && sumOk 2 (k + 1) 2 a) = true := by decide +kernel
theorem sums_3 : ((List.range 57).all fun k => (List.range 3).all fun a => sumOk 3 (k + 1) 1 a && sumOk 3 (k + 1) 2 a) = true := by decide +kernel
theorem sums_5 : ((List.range 57).all fun k => (List.range 5).all fun a => sumOk 5 (k + 1) 1 a && sumOk 5 (k + 1) 2 a) = true := by decide +kernel
theorem sums_7 : ((List.range 57).all fun k => (List.range 7).all fun a => sumOk 7 (k + 1) 1 a && sumOk 7 (k + 1) 2 a) = true := by decide +kernel
theorem sums_11 : ((List.range 57).all fun k => (List.range 11).all fun a => sumOk 11 (k + 1) 1 a && sumOk 11 (k + 1) 2 a) = true := by decide +kernel
theorem sums_13 : ((List.range 57).all fun k => (List.range 13).all fun a => sumOk 13 (k + 1) 1 a && sumOk 13 (k + 1) 2 a) = true := by decide +kernel
end K80

namespace K80
open PySem PySem.Spec PyProof.Rows L2 Fe
def tab (p k : Nat) : List PyData := (List.range p).map fun (a : Nat) => .int (lways p k a)
def tabR (p k : Nat) (sto : List SO) : Res AV := if k = 0 then .ok (.own (tab p k)) ⟨[], sto⟩ else .ok (.dat (.list (tab p k))) ⟨[], sto⟩
theorem sm_2_0 (sto : List SO) : F__law_summed [I 2, I 0] sto = tabR 2 0 sto := by kernel_rfl
theorem sm_2_1 (sto : List SO) : F__law_summed [I 2, I 1] sto = tabR 2 1 sto := by kernel_rfl
theorem sm_2_2 (sto : List SO) : F__law_summed [I 2, I 2] sto = tabR 2 2 sto := by kernel_rfl
theorem sm_2_3 (sto : List SO) : F__law_summed [I 2, I 3] sto = tabR 2 3 sto := by kernel_rfl
theorem sm_2_4 (sto : List SO) : F__law_summed [I 2, I 4] sto = tabR 2 4 sto := by kernel_rfl
theorem sm_2_5 (sto : List SO) : F__law_summed [I 2, I 5] sto = tabR 2 5 sto := by kernel_rfl
theorem sm_2_6 (sto : List SO) : F__law_summed [I 2, I 6] sto = tabR 2 6 sto := by kernel_rfl
theorem sm_2_7 (sto : List SO) : F__law_summed [I 2, I 7] sto = tabR 2 7 sto := by kernel_rfl
theorem sm_2_8 (sto : List SO) : F__law_summed [I 2, I 8] sto = tabR 2 8 sto := by kernel_rfl
theorem sm_2_9 (sto : List SO) : F__law_summed [I 2, I 9] sto = tabR 2 9 sto := by kernel_rfl
theorem sm_2_10 (sto : List SO) : F__law_summed [I 2, I 10] sto = tabR 2 10 sto := by kernel_rfl
theorem sm_2_11 (sto : List SO) : F__law_summed [I 2, I 11] sto = tabR 2 11 sto := by kernel_rfl
theorem sm_3_0 (sto : List SO) : F__law_summed [I 3, I 0] sto = tabR 3 0 sto := by kernel_rfl
theorem sm_3_1 (sto : List SO) : F__law_summed [I 3, I 1] sto = tabR 3 1 sto := by kernel_rfl
theorem sm_3_2 (sto : List SO) : F__law_summed [I 3, I 2] sto = tabR 3 2 sto := by kernel_rfl
theorem sm_3_3 (sto : List SO) : F__law_summed [I 3, I 3] sto = tabR 3 3 sto := by kernel_rfl
theorem sm_3_4 (sto : List SO) : F__law_summed [I 3, I 4] sto = tabR 3 4 sto := by kernel_rfl
theorem sm_3_5 (sto : List SO) : F__law_summed [I 3, I 5] sto = tabR 3 5 sto := by kernel_rfl
theorem sm_3_6 (sto : List SO) : F__law_summed [I 3, I 6] sto = tabR 3 6 sto := by kernel_rfl
theorem sm_3_7 (sto : List SO) : F__law_summed [I 3, I 7] sto = tabR 3 7 sto := by kernel_rfl
theorem sm_3_8 (sto : List SO) : F__law_summed [I 3, I 8] sto = tabR 3 8 sto := by kernel_rfl
theorem sm_3_9 (sto : List SO) : F__law_summed [I 3, I 9] sto = tabR 3 9 sto := by kernel_rfl
theorem sm_3_10 (sto : List SO) : F__law_summed [I 3, I 10] sto = tabR 3 10 sto := by kernel_rfl
theorem sm_3_11 (sto : List SO) : F__law_summed [I 3, I 11] sto = tabR 3 11 sto := by kernel_rfl
theorem sm_5_0 (sto : List SO) : F__law_summed [I 5, I 0] sto = tabR 5 0 sto := by kernel_rfl
theorem sm_5_1 (sto : List SO) : F__law_summed [I 5, I 1] sto = tabR 5 1 sto := by kernel_rfl
theorem sm_5_2 (sto : List SO) : F__law_summed [I 5, I 2] sto = tabR 5 2 sto := by kernel_rfl
theorem sm_5_3 (sto : List SO) : F__law_summed [I 5, I 3] sto = tabR 5 3 sto := by kernel_rfl
theorem sm_5_4 (sto : List SO) : F__law_summed [I 5, I 4] sto = tabR 5 4 sto := by kernel_rfl
theorem sm_5_5 (sto : List SO) : F__law_summed [I 5, I 5] sto = tabR 5 5 sto := by kernel_rfl
theorem sm_5_6 (sto : List SO) : F__law_summed [I 5, I 6] sto = tabR 5 6 sto := by kernel_rfl
theorem sm_5_7 (sto : List SO) : F__law_summed [I 5, I 7] sto = tabR 5 7 sto := by kernel_rfl
theorem sm_5_8 (sto : List SO) : F__law_summed [I 5, I 8] sto = tabR 5 8 sto := by kernel_rfl
theorem sm_5_9 (sto : List SO) : F__law_summed [I 5, I 9] sto = tabR 5 9 sto := by kernel_rfl
theorem sm_5_10 (sto : List SO) : F__law_summed [I 5, I 10] sto = tabR 5 10 sto := by kernel_rfl
theorem sm_5_11 (sto : List SO) : F__law_summed [I 5, I 11] sto = tabR 5 11 sto := by kernel_rfl
theorem sm_7_0 (sto : List SO) : F__law_summed [I 7, I 0] sto = tabR 7 0 sto := by kernel_rfl
theorem sm_7_1 (sto : List SO) : F__law_summed [I 7, I 1] sto = tabR 7 1 sto := by kernel_rfl
theorem sm_7_2 (sto : List SO) : F__law_summed [I 7, I 2] sto = tabR 7 2 sto := by kernel_rfl
theorem sm_7_3 (sto : List SO) : F__law_summed [I 7, I 3] sto = tabR 7 3 sto := by kernel_rfl
theorem sm_7_4 (sto : List SO) : F__law_summed [I 7, I 4] sto = tabR 7 4 sto := by kernel_rfl
theorem sm_7_5 (sto : List SO) : F__law_summed [I 7, I 5] sto = tabR 7 5 sto := by kernel_rfl
theorem sm_7_6 (sto : List SO) : F__law_summed [I 7, I 6] sto = tabR 7 6 sto := by kernel_rfl
theorem sm_7_7 (sto : List SO) : F__law_summed [I 7, I 7] sto = tabR 7 7 sto := by kernel_rfl
theorem sm_7_8 (sto : List SO) : F__law_summed [I 7, I 8] sto = tabR 7 8 sto := by kernel_rfl
theorem sm_7_9 (sto : List SO) : F__law_summed [I 7, I 9] sto = tabR 7 9 sto := by kernel_rfl
theorem sm_7_10 (sto : List SO) : F__law_summed [I 7, I 10] sto = tabR 7 10 sto := by kernel_rfl
theorem sm_7_11 (sto : List SO) : F__law_summed [I 7, I 11] sto = tabR 7 11 sto := by kernel_rfl
end K80

namespace K80
open PySem PySem.Spec PyProof.Rows L2 Fe
theorem sgn_of {p a : Nat} (hp : p ∈ primes) (h2 : p ≠ 2) (ha : a < p) : sq p a = lsq p a ∧ sq p (-1) * sq p a = lsq p (-1 * a) := by
  have e := List.all_eq_true.mp sgn_all p hp
  rw [Bool.or_eq_true] at e
  rcases e with e | e
  · exact absurd (beq_iff_eq.mp e) h2
  · have e1 := List.all_eq_true.mp e a (List.mem_range.mpr ha)
    unfold sgnOk at e1
    rw [Bool.and_eq_true] at e1
    exact ⟨of_decide_eq_true e1.1, of_decide_eq_true e1.2⟩
theorem sgn1_of {p : Nat} (hp : p ∈ primes) (h2 : p ≠ 2) : lsq p 1 = 1 ∧ sq p (-1) = lsq p (-1) := by
  have e := List.all_eq_true.mp sgn1_all p hp
  rw [Bool.or_eq_true] at e
  rcases e with e | e
  · exact absurd (beq_iff_eq.mp e) h2
  · rw [Bool.and_eq_true] at e
    exact ⟨of_decide_eq_true e.1, of_decide_eq_true e.2⟩
theorem ways_eq {p a : Nat} {k : Int} (hp : p ∈ primes) (hk : 0 ≤ k) (ha : a < p) : ways p k a = lways p k a := by
  unfold ways lways
  by_cases c1 : k = 0
  · rw [if_pos c1, if_pos c1]
  · rw [if_neg c1, if_neg c1]
    by_cases c2 : (p : Int) = 2
    · rw [if_pos c2, if_pos c2]
    · rw [if_neg c2, if_neg c2]
      have h2 : p ≠ 2 := fun e => c2 (by rw [e]; rfl)
      obtain ⟨s1, s2⟩ := sgn_of hp h2 ha
      obtain ⟨s3, s4⟩ := sgn1_of hp h2
      by_cases c3 : k % 2 = 1
      · rw [if_pos c3, if_pos c3]
        by_cases c4 : k / 2 % 2 = 1
        · rw [if_pos c4, if_neg (by omega), s2, Int.mul_comm]
        · rw [if_neg c4, if_pos (by omega), Int.one_mul, Int.one_mul, s1, Int.mul_comm]
      · rw [if_neg c3, if_neg c3]
        obtain ⟨M, hM⟩ : ∃ M : Nat, k / 2 = M + 1 := ⟨(k / 2 - 1).toNat, by omega⟩
        have m1 : (k / 2).toNat = M + 1 := by omega
        have m2 : (k / 2 - 1).toNat = M := by omega
        have t : (if k / 2 % 2 = 1 then sq p (-1) else 1) = lsq p (if k / 2 % 2 = 0 then 1 else -1) := by
          by_cases c4 : k / 2 % 2 = 1
          · rw [if_pos c4, if_neg (by omega), s4]
          · rw [if_neg c4, if_pos (by omega), s3]
        rw [t, m1, m2, Int.pow_succ]
        by_cases c5 : (a : Int) = 0
        · rw [if_pos c5, if_pos c5, Int.mul_assoc, Int.mul_sub (↑p ^ M), Int.mul_one]
        · rw [if_neg c5, if_neg c5, Int.mul_neg, Int.mul_one]; rfl
theorem least_eq {p a : Nat} (hp : p ∈ primes) (ha : a < p) : leastD p a = if (a : Int) = 0 then 0 else if (p : Int) = 2 ∨ lsq p a = 1 then 1 else 2 := by
  unfold leastD
  by_cases c2 : (p : Int) = 2
  · simp [c2]
  · have h2 : p ≠ 2 := fun e => c2 (by rw [e]; rfl)
    rw [(sgn_of hp h2 ha).1]
end K80

namespace K80
open PySem PySem.Spec PyProof.Rows L2 Fe
def q0 : Sx → Res Fl := (mSet 1 (mCall 1 F__law_pot (mCons (mFrz (mVar 0)) mNil)))
def q1 : Sx → Res Fl := (mSet 2 (mCall 2 F__law_pick (mCons (mFrz (mVar 1)) (mCons (mFrz (mLst (mCons (mC (.int 2)) (mCons (mC (.int 3)) (mCons (mC (.int 5)) (mCons (mC (.int 7)) (mCons (mC (.int 11)) (mCons (mC (.int 13)) (mCons (mC (.int 2)) (mCons (mC (.int 3)) (mCons (mC (.int 101)) (mCons (mC (.int 997)) mNil)))))))))))) mNil))))
def q2 : Sx → Res Fl := (mSet 3 (mCall 2 F__law_pick (mCons (mFrz (mVar 1)) (mCons (mFrz (mLst (mCons (mC (.int 0)) (mCons (mC (.int 1)) (mCons (mC (.int 2)) (mCons (mC (.int 3)) (mCons (mC (.int 4)) (mCons (mFrz (mCall 2 F__law_draw (mCons (mFrz (mVar 1)) (mCons (mC (.int 61)) mNil)))) (mCons (mC (.int 60)) mNil))))))))) mNil))))
def q3 : Sx → Res Fl := (mSet 4 (mCall 2 F__law_draw (mCons (mFrz (mVar 1)) (mCons (mFrz (mVar 2)) mNil))))
def q4 : Sx → Res Fl := (mSet 5 (mFrz (mIf (mTest (mOp gEqA (mVar 3) (mC (.int 0)))) (mTup (mCons (mC (.int 0)) (mCons (mC (.int 1)) mNil))) (mTup (mCons (mC (.int 1)) (mCons (mC (.int 0)) mNil))))))
def q5 : Sx → Res Fl := (mIfS (mAnd (mTest (mOp gGt (mVar 2) (mC (.int 2)))) (mTest (mOp gGt (mVar 3) (mC (.int 0))))) (mSet 5 (mTup (mCons (mFrz (mVar 3)) (mCons (mFrz (mIf (mOr (mTest (mOp gEqA (mOp gMod (mVar 2) (mC (.int 4))) (mC (.int 1)))) (mTest (mOp gEqA (mOp gMod (mOp gDiv (mVar 3) (mC (.int 2))) (mC (.int 2))) (mC (.int 0))))) (mC (.int 1)) (mUn gNeg (mC (.int 1))))) mNil)))) mNext)
def q6 : Sx → Res Fl := (mIfS (mTest (mOp gNeA (mFn (g1 gRepr) (mCons (mLst (mCons (mFrz (mCall 2 F_squares_kind (mCons (mFrz (mVar 2)) (mCons (mFrz (mVar 3)) mNil)))) (mCons (mFrz (mCallK 0 2 2 F_squares_kind [1, 0] mNil (mCons (mFrz (mVar 3)) (mCons (mFrz (mVar 2)) mNil)))) mNil))) mNil)) (mFn (g1 gRepr) (mCons (mLst (mCons (mFrz (mVar 5)) (mCons (mFrz (mVar 5)) mNil))) mNil)))) (mRet (mC (.bool false))) mNext)
def q7 : Sx → Res Fl := (mSet 6 (mCall 3 F__law_ways (mCons (mFrz (mVar 2)) (mCons (mFrz (mVar 3)) (mCons (mFrz (mVar 4)) mNil)))))
def q8 : Sx → Res Fl := (mIfS (mTest (mOp gNeA (mFn (g1 gRepr) (mCons (mLst (mCons (mFrz (mCall 3 F_squares_ways (mCons (mFrz (mVar 2)) (mCons (mFrz (mVar 3)) (mCons (mFrz (mVar 4)) mNil))))) (mCons (mFrz (mCallK 0 3 3 F_squares_ways [2, 1, 0] mNil (mCons (mFrz (mVar 4)) (mCons (mFrz (mVar 3)) (mCons (mFrz (mVar 2)) mNil))))) mNil))) mNil)) (mFn (g1 gRepr) (mCons (mLst (mCons (mFrz (mVar 6)) (mCons (mFrz (mVar 6)) mNil))) mNil)))) (mRet (mC (.bool false))) mNext)
def q9 : Sx → Res Fl := (mIfS (mAnd (mTest (mOp gLt (mVar 2) (mC (.int 8)))) (mAnd (mTest (mOp gLt (mVar 3) (mC (.int 12)))) (mTest (mOp gNeA (mOp gIx (mCall 2 F__law_summed (mCons (mFrz (mVar 2)) (mCons (mFrz (mVar 3)) mNil))) (mVar 4)) (mVar 6))))) (mRet (mC (.bool false))) mNext)
def q10 : Sx → Res Fl := (mIfS (mAnd (mTest (mOp gLt (mVar 2) (mC (.int 14)))) (mTest (mChain (fun i j => decide (i < j)) (fun i j => decide (i < j)) (mC (.int 0)) (mVar 3) (mC (.int 58))))) (mSeq (mSet 7 (mOp gAdd (mC (.int 1)) (mCall 2 F__law_draw (mCons (mFrz (mVar 1)) (mCons (mC (.int 2)) mNil)))))
  (mSeq (mSet 8 (mFn (g1 gSum) (mCons (mLc [11] (mRng rg1 (mCons (mFrz (mVar 2)) mNil)) (stv 11) mYes (mFrz (mOp gMulI (mCall 3 F_squares_ways (mCons (mFrz (mVar 2)) (mCons (mFrz (mVar 3)) (mCons (mFrz (mVar 11)) mNil)))) (mCall 3 F_squares_ways (mCons (mFrz (mVar 2)) (mCons (mFrz (mVar 7)) (mCons (mFrz (mOp gMod (mOp gSub (mVar 4) (mVar 11)) (mVar 2))) mNil))))))) mNil)))
  (mIfS (mTest (mOp gNeA (mVar 8) (mCall 3 F_squares_ways (mCons (mFrz (mVar 2)) (mCons (mFrz (mOp gAdd (mVar 3) (mVar 7))) (mCons (mFrz (mVar 4)) mNil)))))) (mRet (mC (.bool false))) mNext))) mNext)
def q11 : Sx → Res Fl := (mSet 9 (mFrz (mIf (mTest (mOp gEqA (mVar 4) (mC (.int 0)))) (mC (.int 0)) (mIf (mOr (mTest (mOp gEqA (mVar 2) (mC (.int 2)))) (mTest (mOp gEqA (mCall 2 F__law_sign (mCons (mFrz (mVar 2)) (mCons (mFrz (mVar 4)) mNil))) (mC (.int 1))))) (mC (.int 1)) (mC (.int 2))))))
def q12 : Sx → Res Fl := (mIfS (mTest (mOp gNeA (mFn (g1 gRepr) (mCons (mLst (mCons (mFrz (mCall 2 F_least_squares (mCons (mFrz (mVar 2)) (mCons (mFrz (mVar 4)) mNil)))) (mCons (mFrz (mCallK 0 2 2 F_least_squares [1, 0] mNil (mCons (mFrz (mVar 4)) (mCons (mFrz (mVar 2)) mNil)))) mNil))) mNil)) (mFn (g1 gRepr) (mCons (mLst (mCons (mFrz (mVar 9)) (mCons (mFrz (mVar 9)) mNil))) mNil)))) (mRet (mC (.bool false))) mNext)
def q13 : Sx → Res Fl := (mSet 9 (mFrz (mIf (mOr (mTest (mOp gEqA (mVar 2) (mC (.int 2)))) (mTest (mOp gEqA (mOp gMod (mVar 2) (mC (.int 4))) (mC (.int 1))))) (mC (.int 2)) (mC (.int 3)))))
def q14 : Sx → Res Fl := (mIfS (mTest (mOp gNeA (mFn (g1 gRepr) (mCons (mLst (mCons (mFrz (mCall 1 F_least_nought_squares (mCons (mFrz (mVar 2)) mNil))) (mCons (mFrz (mCallK 0 1 1 F_least_nought_squares [0] mNil (mCons (mFrz (mVar 2)) mNil))) mNil))) mNil)) (mFn (g1 gRepr) (mCons (mLst (mCons (mFrz (mVar 9)) (mCons (mFrz (mVar 9)) mNil))) mNil)))) (mRet (mC (.bool false))) mNext)
def q15 : Sx → Res Fl := (mAsg (mFrz (mCall 2 F__law_pick (mCons (mFrz (mVar 1)) (mCons (mFrz (mLst (mCons (mTup (mCons (mC (.int 2)) (mCons (mC (.int 1)) mNil))) (mCons (mTup (mCons (mC (.int 2)) (mCons (mC (.int 5)) mNil))) (mCons (mTup (mCons (mC (.int 3)) (mCons (mC (.int 2)) mNil))) (mCons (mTup (mCons (mC (.int 3)) (mCons (mC (.int 4)) mNil))) (mCons (mTup (mCons (mC (.int 5)) (mCons (mC (.int 3)) mNil))) (mCons (mTup (mCons (mC (.int 7)) (mCons (mC (.int 2)) mNil))) (mCons (mTup (mCons (mC (.int 13)) (mCons (mC (.int 2)) mNil))) (mCons (mTup (mCons (mC (.int 97)) (mCons (mC (.int 1)) mNil))) (mCons (mTup (mCons (mC (.int 2)) (mCons (mC (.int 8)) mNil))) mNil))))))))))) mNil)))) (gTupA 2 (gsCons (stv 2) (gsCons (stv 3) gsNil))))
def q16 : Sx → Res Fl := (mAsg (mTup (mCons (mFrz (mCall 2 F__law_draw (mCons (mFrz (mVar 1)) (mCons (mFrz (mVar 2)) mNil)))) (mCons (mFrz (mCall 2 F__law_all_rows (mCons (mFrz (mVar 2)) (mCons (mFrz (mVar 3)) mNil)))) mNil))) (gTupA 2 (gsCons (stv 4) (gsCons (stv 10) gsNil))))
def q17 : Sx → Res Fl := (mSet 6 (mFn (g1 gTuple) (mCons (mLc [12] (mSeqI (mFrz (mVar 10))) (stv 12) (mTest (mOp gEqA (mOp gMod (mFn (g1 gSum) (mCons (mLc [13] (mSeqI (mFrz (mVar 12))) (stv 13) mYes (mFrz (mOp gMulI (mVar 13) (mVar 13)))) mNil)) (mVar 2)) (mVar 4))) (mFrz (mVar 12))) mNil)))
def q18 : Sx → Res Fl := (mIfS (mNot (mTest (mCall 4 F__law_is_asked (mCons (mFrz (mVar 2)) (mCons (mFrz (mVar 3)) (mCons (mFrz (mVar 4)) (mCons (mFrz (mLst (mCons (mC (.str "told")) (mCons (mFrz (mVar 6)) mNil)))) mNil))))))) (mRet (mC (.bool false))) mNext)
def q19 : Sx → Res Fl := (mAsg (mFrz (mCall 2 F__law_pick (mCons (mFrz (mVar 1)) (mCons (mFrz (mLst (mCons (mTup (mCons (mC (.int 2)) (mCons (mC (.int 12)) mNil))) (mCons (mTup (mCons (mC (.int 3)) (mCons (mC (.int 8)) mNil))) (mCons (mTup (mCons (mC (.int 5)) (mCons (mC (.int 5)) mNil))) (mCons (mTup (mCons (mC (.int 7)) (mCons (mC (.int 5)) mNil))) (mCons (mTup (mCons (mC (.int 59)) (mCons (mC (.int 2)) mNil))) (mCons (mTup (mCons (mC (.int 997)) (mCons (mC (.int 2)) mNil))) (mCons (mTup (mCons (mC (.int 2)) (mCons (mC (.int 60)) mNil))) (mCons (mTup (mCons (mC (.int 3)) (mCons (mC (.int 60)) mNil))) mNil)))))))))) mNil)))) (gTupA 2 (gsCons (stv 2) (gsCons (stv 3) gsNil))))
def q20 : Sx → Res Fl := (mRet (mCall 4 F__law_is_asked (mCons (mFrz (mVar 2)) (mCons (mFrz (mVar 3)) (mCons (mC (.int 1)) (mCons (mFrz (mLst (mCons (mC (.str "many")) (mCons (mC (.int 3000)) mNil)))) mNil))))))
theorem law_split : m_law = mSeq q0 (mSeq q1 (mSeq q2 (mSeq q3 (mSeq q4 (mSeq q5 (mSeq q6 (mSeq q7 (mSeq q8 (mSeq q9 (mSeq q10 (mSeq q11 (mSeq q12 (mSeq q13 (mSeq q14 (mSeq q15 (mSeq q16 (mSeq q17 (mSeq q18 (mSeq q19 (q20)))))))))))))))))))) := rfl
def St (ns : List Int) (p k a kd due m tot least rows v row x : Option AV) (sto : List SO) : Sx := ⟨[some (.scr ns), some (.obj 1), p, k, a, kd, due, m, tot, least, rows, v, row, x], sto⟩
theorem s0 (ns : List Int) (hn : ns.length ≤ 63) : ∃ g st, q0 ⟨[some (.scr ns), none, none, none, none, none, none, none, none, none, none, none, none, none], []⟩ = .ok .next (St ns none none none none none none none none none none none none (potS g st 0)) ∧ PotOk 0 g st 0 := by
  obtain ⟨g, st, e, h⟩ := e_pot ns hn
  refine ⟨g, st, ?_, h⟩
  unfold q0
  simp [e, St]
theorem s1 {ns : List Int} {g : List Int} {st tn : Int} {c : Nat} (h : PotOk c g st tn) (hc : c ≤ 100) : ∃ (p : Nat) (g' : List Int) (st' tn' : Int), p ∈ primes ∧ q1 (St ns none none none none none none none none none none none none (potS g st tn)) = .ok .next (St ns (some (I p)) none none none none none none none none none none none (potS g' st' tn')) ∧ PotOk (c + 1) g' st' tn' := by
  obtain ⟨i, d, g', st', tn', e, hd, h'⟩ := e_pick (ds := [.int 2, .int 3, .int 5, .int 7, .int 11, .int 13, .int 2, .int 3, .int 101, .int 997]) h (by omega) (fun z => nomatch z) (by decide)
  have hm := List.mem_of_getElem? hd
  have hp : ∃ p : Nat, p ∈ primes ∧ d = .int p := by
    simp only [List.mem_cons, List.not_mem_nil, or_false] at hm
    rcases hm with e | e | e | e | e | e | e | e | e | e
    · exact ⟨2, by decide, e⟩
    · exact ⟨3, by decide, e⟩
    · exact ⟨5, by decide, e⟩
    · exact ⟨7, by decide, e⟩
    · exact ⟨11, by decide, e⟩
    · exact ⟨13, by decide, e⟩
    · exact ⟨2, by decide, e⟩
    · exact ⟨3, by decide, e⟩
    · exact ⟨101, by decide, e⟩
    · exact ⟨997, by decide, e⟩
  obtain ⟨p, hp, rfl⟩ := hp
  refine ⟨p, g', st', tn', hp, ?_, h'⟩
  unfold q1
  simp [e, St, LIM]
theorem s2 {ns : List Int} {g : List Int} {st tn : Int} {c : Nat} {p : Option AV} (h : PotOk c g st tn) (hc : c ≤ 100) : ∃ (k : Int) (g' : List Int) (st' tn' : Int), 0 ≤ k ∧ k ≤ 60 ∧ q2 (St ns p none none none none none none none none none none none (potS g st tn)) = .ok .next (St ns p (some (I k)) none none none none none none none none none none (potS g' st' tn')) ∧ PotOk (c + 2) g' st' tn' := by
  obtain ⟨r, g1, st1, tn1, e1, r0, r1, h1⟩ := e_draw (many := 61) h (by omega) (by decide) (by decide)
  obtain ⟨i, d, g', st', tn', e, hd, h'⟩ := e_pick (ds := [.int 0, .int 1, .int 2, .int 3, .int 4, .int r, .int 60]) h1 (by omega) (fun z => nomatch z) (by show 7 < 1000; decide)
  have hm := List.mem_of_getElem? hd
  have hp : ∃ k : Int, 0 ≤ k ∧ k ≤ 60 ∧ d = .int k := by
    simp only [List.mem_cons, List.not_mem_nil, or_false] at hm
    rcases hm with e | e | e | e | e | e | e
    · exact ⟨0, by decide, by decide, e⟩
    · exact ⟨1, by decide, by decide, e⟩
    · exact ⟨2, by decide, by decide, e⟩
    · exact ⟨3, by decide, by decide, e⟩
    · exact ⟨4, by decide, by decide, e⟩
    · exact ⟨r, r0, by omega, e⟩
    · exact ⟨60, by decide, by decide, e⟩
  obtain ⟨k, k0, k1, rfl⟩ := hp
  refine ⟨k, g', st', tn', k0, k1, ?_, h'⟩
  unfold q2
  simp [e1, e, St, LIM]
theorem s3 {ns : List Int} {g : List Int} {st tn : Int} {c p : Nat} {k : Option AV} (h : PotOk c g st tn) (hc : c ≤ 100) (hp : 0 < p) (hp2 : p ≤ 1000) : ∃ (a : Nat) (g' : List Int) (st' tn' : Int), a < p ∧ q3 (St ns (some (I p)) k none none none none none none none none none none (potS g st tn)) = .ok .next (St ns (some (I p)) k (some (I a)) none none none none none none none none none (potS g' st' tn')) ∧ PotOk (c + 1) g' st' tn' := by
  obtain ⟨r, g1, st1, tn1, e1, r0, r1, h1⟩ := e_draw (many := (p : Int)) h (by omega) (by omega) (divOk_of (by omega) (by omega))
  refine ⟨r.toNat, g1, st1, tn1, by omega, ?_, h1⟩
  have er : ((r.toNat : Nat) : Int) = r := by omega
  unfold q3
  simp [e1, St, er]
theorem s45 {ns : List Int} {sto : List SO} {p : Nat} {k : Int} {a : Option AV} (hp : p ∈ primes) (hk : 0 ≤ k) : ∃ k0 : PyData, q4 (St ns (some (I p)) (some (I k)) a none none none none none none none none none sto) = .ok .next (St ns (some (I p)) (some (I k)) a (some (.dat k0)) none none none none none none none none sto) ∧
    q5 (St ns (some (I p)) (some (I k)) a (some (.dat k0)) none none none none none none none none sto) = .ok .next (St ns (some (I p)) (some (I k)) a (some (.dat (kindD p k))) none none none none none none none none sto) := by
  have hp2 : (2 : Int) ≤ p := by
    have : ∀ q ∈ primes, 2 ≤ q := by decide
    have := this p hp
    omega
  refine ⟨if k = 0 then .tuple [.int 0, .int 1] else .tuple [.int 1, .int 0], ?_, ?_⟩
  · unfold q4
    by_cases h : k = 0
    · simp [St, h, LIM]
    · simp [St, h, LIM]
  · unfold q5 kindD
    by_cases h : k = 0
    · simp [St, h]
    · have hk0 : 0 < k := by omega
      by_cases h2 : (p : Int) = 2
      · simp [St, h, h2]
      · have h3 : (2 : Int) < p := by omega
        by_cases c1 : (p : Int) % 4 = 1
        · simp [St, h, h2, h3, hk0, c1, LIM, mod_ii (show (0 : Int) < 4 by decide), mod_ii (show (0 : Int) < 2 by decide), div_ii (show divOk 2 = true by decide)]
        · by_cases c2 : k / 2 % 2 = 0
          · simp [St, h, h2, h3, hk0, c1, c2, LIM, mod_ii (show (0 : Int) < 4 by decide), mod_ii (show (0 : Int) < 2 by decide), div_ii (show divOk 2 = true by decide)]
          · simp [St, h, h2, h3, hk0, c1, c2, LIM, mod_ii (show (0 : Int) < 4 by decide), mod_ii (show (0 : Int) < 2 by decide), div_ii (show divOk 2 = true by decide)]
theorem small_log {i : Int} (h : i.natAbs < 2 ^ 64) : i.natAbs.log2 < 1920 := by
  by_cases h0 : i.natAbs = 0
  · rw [h0]; decide
  · have := (Nat.log2_lt h0).mpr h
    omega
theorem rep2 {i : Int} (h : i.natAbs.log2 < 1920) : reprOk (.list [.int i, .int i]) = true := by
  refine reprOk_of ?_ (by rfl) (by simp [PyData.depth, PyData.depthAll]) (by simp [wt, wtAll])
  show (PyData.showable (.int i) && (PyData.showable (.int i) && true)) = true
  have : PyData.showable (.int i) = true := decide_eq_true h
  rw [this]; rfl
theorem repT {i j : Int} (h : i.natAbs.log2 < 1920) (h2 : j.natAbs.log2 < 1920) : reprOk (.list [.tuple [.int i, .int j], .tuple [.int i, .int j]]) = true := by
  have e1 : PyData.showable (.int i) = true := decide_eq_true h
  have e2 : PyData.showable (.int j) = true := decide_eq_true h2
  refine reprOk_of ?_ (by rfl) (by simp [PyData.depth, PyData.depthAll]) (by simp [wt, wtAll])
  simp [PyData.showable, PyData.showableAll] at e1 e2 ⊢
  exact ⟨e1, e2⟩
theorem s6 {ns : List Int} {sto : List SO} {p : Nat} {k : Int} {a : Option AV} (hk : 0 ≤ k) (hk2 : k ≤ 60) : q6 (St ns (some (I p)) (some (I k)) a (some (.dat (kindD p k))) none none none none none none none none sto) = .ok .next (St ns (some (I p)) (some (I k)) a (some (.dat (kindD p k))) none none none none none none none none sto) := by
  have hr : reprOk (.list [kindD p k, kindD p k]) = true := by
    unfold kindD
    split
    · exact repT (by decide) (by decide)
    · split
      · exact repT (by decide) (by decide)
      · exact repT (small_log (by omega)) (by split <;> decide)
  unfold q6
  simp [St, e_kind, mCallK_ap, perm2, LIM, repr_own hr]
theorem s7 {ns : List Int} {sto : List SO} {p a : Nat} {k : Int} {kd : Option AV} (hp : 0 < p) (hp2 : p ≤ 1000) (hk : 0 ≤ k) (hk2 : k ≤ 60) : q7 (St ns (some (I p)) (some (I k)) (some (I a)) kd none none none none none none none none sto) = .ok .next (St ns (some (I p)) (some (I k)) (some (I a)) kd (some (I (lways p k a))) none none none none none none none sto) := by
  have e := e_lways (p := p) (k := k) (a := a) (sto := sto) (by omega) (by omega) hk (by omega)
  unfold q7
  simp [St, e]
theorem pow_small {p : Nat} (hp2 : p ≤ 1000) (hp : 0 < p) {n : Nat} (hn : n ≤ 60) : ((p : Int) ^ n).natAbs ≤ 1000 ^ 60 := by
  rw [Int.natAbs_pow]
  have : (p : Int).natAbs = p := rfl
  rw [this]
  exact Nat.le_trans (Nat.pow_le_pow_left hp2 n) (Nat.pow_le_pow_right (by decide) hn)
theorem lways_small {p a : Nat} {k : Int} (hp : 0 < p) (hp2 : p ≤ 1000) (hk : 0 ≤ k) (hk2 : k ≤ 60) : (lways p k a).natAbs.log2 < 1920 := by
  have key : (lways p k a).natAbs ≤ 2 * 1000 ^ 61 := by
    unfold lways
    split
    · split <;> decide
    · split
      · have := pow_small (p := 2) (by decide) (by decide) (n := (k - 1).toNat) (by omega)
        refine Nat.le_trans this (by decide)
      · have b1 := pow_small hp2 hp (n := (k - 1).toNat) (by omega)
        have b2 := pow_small hp2 hp (n := (k / 2).toNat) (by omega)
        have b3 := pow_small hp2 hp (n := (k / 2 - 1).toNat) (by omega)
        split
        · refine Nat.le_trans (Int.natAbs_add_le _ _) ?_
          rw [Int.natAbs_mul]
          have l1 := lsq_abs (p := p) (a := (if k / 2 % 2 = 0 then 1 else -1) * a)
          have := Nat.mul_le_mul b2 l1
          refine Nat.le_trans (Nat.add_le_add b1 this) (by decide)
        · refine Nat.le_trans (Int.natAbs_add_le _ _) ?_
          rw [Int.natAbs_mul, Int.natAbs_mul]
          have l1 := lsq_abs (p := p) (a := if k / 2 % 2 = 0 then 1 else -1)
          have l2 : (if (a : Int) = 0 then (p : Int) - 1 else -1).natAbs ≤ 1000 := by split <;> omega
          have := Nat.mul_le_mul (Nat.mul_le_mul l1 b3) l2
          refine Nat.le_trans (Nat.add_le_add b1 this) (by decide)
  by_cases h0 : (lways p k a).natAbs = 0
  · rw [h0]; decide
  · refine (Nat.log2_lt h0).mpr (Nat.lt_of_le_of_lt key (by decide))
theorem s8 {ns : List Int} {sto : List SO} {p a : Nat} {k : Int} {kd : Option AV} (hpp : p ∈ primes) (ha : a < p) (hp : 0 < p) (hp2 : p ≤ 1000) (hk : 0 ≤ k) (hk2 : k ≤ 60) : q8 (St ns (some (I p)) (some (I k)) (some (I a)) kd (some (I (lways p k a))) none none none none none none none sto) = .ok .next (St ns (some (I p)) (some (I k)) (some (I a)) kd (some (I (lways p k a))) none none none none none none none sto) := by
  have e := e_ways (p := p) (k := k) (a := a) (sto := sto) (by omega) (by omega) hk (by omega)
  rw [ways_eq hpp hk ha] at e
  have hr := rep2 (lways_small (p := p) (k := k) (a := a) hp hp2 hk hk2)
  unfold q8
  simp [St, e, mCallK_ap, perm3, LIM, repr_own hr]
end K80

namespace K80
open PySem PySem.Spec PyProof.Rows L2 Fe
theorem sm_2 (k : Nat) (hk : k < 12) (sto : List SO) : F__law_summed [I (2 : Nat), I (k : Nat)] sto = tabR 2 k sto := match k, hk with
  | 0, _ => sm_2_0 sto
  | 1, _ => sm_2_1 sto
  | 2, _ => sm_2_2 sto
  | 3, _ => sm_2_3 sto
  | 4, _ => sm_2_4 sto
  | 5, _ => sm_2_5 sto
  | 6, _ => sm_2_6 sto
  | 7, _ => sm_2_7 sto
  | 8, _ => sm_2_8 sto
  | 9, _ => sm_2_9 sto
  | 10, _ => sm_2_10 sto
  | 11, _ => sm_2_11 sto
  | n + 12, h => absurd h (by omega)
theorem sm_3 (k : Nat) (hk : k < 12) (sto : List SO) : F__law_summed [I (3 : Nat), I (k : Nat)] sto = tabR 3 k sto := match k, hk with
  | 0, _ => sm_3_0 sto
  | 1, _ => sm_3_1 sto
  | 2, _ => sm_3_2 sto
  | 3, _ => sm_3_3 sto
  | 4, _ => sm_3_4 sto
  | 5, _ => sm_3_5 sto
  | 6, _ => sm_3_6 sto
  | 7, _ => sm_3_7 sto
  | 8, _ => sm_3_8 sto
  | 9, _ => sm_3_9 sto
  | 10, _ => sm_3_10 sto
  | 11, _ => sm_3_11 sto
  | n + 12, h => absurd h (by omega)
theorem sm_5 (k : Nat) (hk : k < 12) (sto : List SO) : F__law_summed [I (5 : Nat), I (k : Nat)] sto = tabR 5 k sto := match k, hk with
  | 0, _ => sm_5_0 sto
  | 1, _ => sm_5_1 sto
  | 2, _ => sm_5_2 sto
  | 3, _ => sm_5_3 sto
  | 4, _ => sm_5_4 sto
  | 5, _ => sm_5_5 sto
  | 6, _ => sm_5_6 sto
  | 7, _ => sm_5_7 sto
  | 8, _ => sm_5_8 sto
  | 9, _ => sm_5_9 sto
  | 10, _ => sm_5_10 sto
  | 11, _ => sm_5_11 sto
  | n + 12, h => absurd h (by omega)
theorem sm_7 (k : Nat) (hk : k < 12) (sto : List SO) : F__law_summed [I (7 : Nat), I (k : Nat)] sto = tabR 7 k sto := match k, hk with
  | 0, _ => sm_7_0 sto
  | 1, _ => sm_7_1 sto
  | 2, _ => sm_7_2 sto
  | 3, _ => sm_7_3 sto
  | 4, _ => sm_7_4 sto
  | 5, _ => sm_7_5 sto
  | 6, _ => sm_7_6 sto
  | 7, _ => sm_7_7 sto
  | 8, _ => sm_7_8 sto
  | 9, _ => sm_7_9 sto
  | 10, _ => sm_7_10 sto
  | 11, _ => sm_7_11 sto
  | n + 12, h => absurd h (by omega)
theorem tab_ix {p k a : Nat} (ha : a < p) : atI (tab p k) (a : Int) = some (.int (lways p k a)) := by
  unfold atI ixN
  have hl : (tab p k).length = p := by unfold tab; simp
  rw [hl, if_pos (by omega), if_pos (by omega)]
  show (tab p k)[((a : Int)).toNat]? = _
  unfold tab
  simp [ha]
theorem e_summed {p k' : Nat} {sto : List SO} (hpp : p ∈ primes) (h1 : (p : Int) < 8) (h2 : k' < 12) : F__law_summed [I p, I k'] sto = tabR p k' sto := by
  have hp4 : p = 2 ∨ p = 3 ∨ p = 5 ∨ p = 7 := by
    simp [primes] at hpp
    omega
  rcases hp4 with rfl | rfl | rfl | rfl
  · exact sm_2 k' h2 sto
  · exact sm_3 k' h2 sto
  · exact sm_5 k' h2 sto
  · exact sm_7 k' h2 sto
theorem ix_own {l : List PyData} {a : Int} {d : PyData} (h : atI l a = some d) (s : Sx) : gIx (.own l) (.dat (.int a)) s = some (.dat d, s) := by
  show (atI l a).map _ = _
  rw [h]; rfl
theorem ix_lst {l : List PyData} {a : Int} {d : PyData} (h : atI l a = some d) (s : Sx) : gIx (.dat (.list l)) (.dat (.int a)) s = some (.dat d, s) := by
  show (atI l a).map _ = _
  rw [h]; rfl
theorem t9 {ns : List Int} {sto : List SO} {p a k : Int} {kd : Option AV} {w : Int} (h : (k < 12 → p < 8 → ∃ av, F__law_summed [I p, I k] sto = .ok av ⟨[], sto⟩ ∧ ∀ s, gIx av (I a) s = some (I w, s))) : q9 (St ns (some (I p)) (some (I k)) (some (I a)) kd (some (I w)) none none none none none none none sto) = .ok .next (St ns (some (I p)) (some (I k)) (some (I a)) kd (some (I w)) none none none none none none none sto) := by
  unfold q9
  by_cases h1 : p < 8
  · by_cases h2 : k < 12
    · obtain ⟨av, e, g⟩ := h h2 h1
      simp [St, h1, h2, e, g]
    · simp [St, h1, h2]
  · simp [St, h1]
theorem s9 {ns : List Int} {sto : List SO} {p a : Nat} {k : Int} {kd : Option AV} (hpp : p ∈ primes) (ha : a < p) (hk : 0 ≤ k) : q9 (St ns (some (I p)) (some (I k)) (some (I a)) kd (some (I (lways p k a))) none none none none none none none sto) = .ok .next (St ns (some (I p)) (some (I k)) (some (I a)) kd (some (I (lways p k a))) none none none none none none none sto) := by
  refine t9 fun h2 h1 => ?_
  obtain ⟨k', rfl⟩ : ∃ k' : Nat, k = k' := ⟨k.toNat, by omega⟩
  have e := e_summed (sto := sto) hpp h1 (k' := k') (by omega)
  unfold tabR at e
  by_cases hk0 : k' = 0
  · rw [if_pos hk0] at e
    exact ⟨_, e, ix_own (tab_ix ha)⟩
  · rw [if_neg hk0] at e
    exact ⟨_, e, ix_lst (tab_ix ha)⟩
end K80

namespace K80
open PySem PySem.Spec PyProof.Rows L2 Fe
def smallP : List Nat := [2, 3, 5, 7, 11, 13]
theorem small_all : (smallP.all fun p => (List.range p).all fun v => decide ((ways p 1 v).natAbs < 2 ^ 64) && decide ((ways p 2 v).natAbs < 2 ^ 64)) = true := by decide +kernel
theorem sum_of {p k m a : Nat} (hp : p ∈ smallP) (hk : 1 ≤ k) (hk2 : k ≤ 57) (hm : m = 1 ∨ m = 2) (ha : a < p) : ((List.range p).map fun (v : Nat) => ways p k v * ways p m (((a : Int) - v) % p)).sum = ways p (k + m) a := by
  have go : ∀ q : Nat, ((List.range 57).all fun k => (List.range q).all fun a => sumOk q (k + 1) 1 a && sumOk q (k + 1) 2 a) = true → a < q → ((List.range q).map fun (v : Nat) => ways q k v * ways q m (((a : Int) - v) % q)).sum = ways q (k + m) a := fun q h ha => by
    have h1 := List.all_eq_true.mp h (k - 1) (List.mem_range.mpr (by omega))
    have h2 := List.all_eq_true.mp h1 a (List.mem_range.mpr ha)
    rw [Bool.and_eq_true] at h2
    have ek : k - 1 + 1 = k := by omega
    rw [ek] at h2
    rcases hm with rfl | rfl
    · exact of_decide_eq_true h2.1
    · exact of_decide_eq_true h2.2
  simp only [smallP, List.mem_cons, List.not_mem_nil, or_false] at hp
  rcases hp with rfl | rfl | rfl | rfl | rfl | rfl
  · exact go 2 sums_2 ha
  · exact go 3 sums_3 ha
  · exact go 5 sums_5 ha
  · exact go 7 sums_7 ha
  · exact go 11 sums_11 ha
  · exact go 13 sums_13 ha
theorem small_of {p m v : Nat} (hp : p ∈ smallP) (hm : m = 1 ∨ m = 2) (hv : v < p) : (ways p m v).natAbs < 2 ^ 64 := by
  have h1 := List.all_eq_true.mp small_all p hp
  have h2 := List.all_eq_true.mp h1 v (List.mem_range.mpr hv)
  rw [Bool.and_eq_true] at h2
  rcases hm with rfl | rfl
  · exact of_decide_eq_true h2.1
  · exact of_decide_eq_true h2.2
theorem intsD_map : ∀ l : List Int, intsD (l.map .int) = some l := fun l => by
  induction l with
  | nil => rfl
  | cons a l ih => show (intsD (l.map .int)).map (a :: ·) = _; rw [ih]; rfl
theorem gSum_own (l : List Int) (s : Sx) : gSum (.own (l.map .int)) s = some (I l.sum, s) := by
  show (intsD (l.map .int)).map _ = _
  rw [intsD_map]; rfl
abbrev elt10 : Sx → Res AV := mFrz (mOp gMulI (mCall 3 F_squares_ways (mCons (mFrz (mVar 2)) (mCons (mFrz (mVar 3)) (mCons (mFrz (mVar 11)) mNil)))) (mCall 3 F_squares_ways (mCons (mFrz (mVar 2)) (mCons (mFrz (mVar 7)) (mCons (mFrz (mOp gMod (mOp gSub (mVar 4) (mVar 11)) (mVar 2))) mNil)))))
theorem elt10_ok {ns : List Int} {sto : List SO} {p k m a v w1 w2 : Int} {kd due : Option AV} (hp : 0 < p) (e1 : F_squares_ways [I p, I k, I v] sto = okI w1 sto) (e2 : F_squares_ways [I p, I m, I ((a - v) % p)] sto = okI w2 sto) (hmul : mulOk w1 w2 = true) :
    elt10 ⟨[some (.scr ns), some (.obj 1), some (I p), some (I k), some (I a), kd, due, some (I m), none, none, none, some (I v), none, none], sto⟩ = .ok (I (w1 * w2)) ⟨[some (.scr ns), some (.obj 1), some (I p), some (I k), some (I a), kd, due, some (I m), none, none, none, some (I v), none, none], sto⟩ := by
  unfold elt10
  simp [e1, e2, mod_ii hp, mul_ii hmul]
theorem comp10 {ns : List Int} {sto : List SO} {p k m a : Int} {kd due : Option AV} (W1 W2 : Int → Int) (hp : 0 < p) (hp2 : p < 1000) (e1 : ∀ v : Int, F_squares_ways [I p, I k, I v] sto = okI (W1 v) sto) (e2 : ∀ v : Int, F_squares_ways [I p, I m, I ((a - v) % p)] sto = okI (W2 ((a - v) % p)) sto) (hmul : ∀ x v : Int, mulOk x (W2 ((a - v) % p)) = true) :
    mLc [11] (mRng rg1 (mCons (mFrz (mVar 2)) mNil)) (stv 11) mYes elt10 ⟨[some (.scr ns), some (.obj 1), some (I p), some (I k), some (I a), kd, due, some (I m), none, none, none, none, none, none], sto⟩ = .ok (.own (((List.range p.toNat).map fun (v : Nat) => W1 (0 + (v : Int)) * W2 ((a - (0 + (v : Int))) % p)).map .int)) ⟨[some (.scr ns), some (.obj 1), some (I p), some (I k), some (I a), kd, due, some (I m), none, none, none, none, none, none], sto⟩ := by
  have h1 : (mRng rg1 (mCons (mFrz (mVar 2)) mNil)) ⟨[some (.scr ns), some (.obj 1), some (I p), some (I k), some (I a), kd, due, some (I m), none, none, none, none, none, none], sto⟩ = .ok (rgL 0 p) ⟨[some (.scr ns), some (.obj 1), some (I p), some (I k), some (I a), kd, due, some (I m), none, none, none, none, none, none], sto⟩ := by
    have hr : ∀ s : Sx, rg1 [I p] s = some (rgL 0 p, s) := fun s => rg1_ap (by unfold rgOk; rw [Bool.and_eq_true]; exact ⟨decide_eq_true (by omega), decide_eq_true (by omega)⟩)
    unfold mRng
    simp [hr]
  refine (mLc_ok h1 (cloop_all (W0 := ⟨[some (.scr ns), some (.obj 1), some (I p), some (I k), some (I a), kd, due, some (I m), none, none, none, none, none, none], sto⟩) (F := fun x => some (.int (W1 (asInt x) * W2 ((a - asInt x) % p)))) rfl (fun x hx => ?_) (by rw [rgL_len]; show 0 + _ ≤ 16777216; omega))).trans ?_
  · obtain ⟨v, hv⟩ := rgL_ints x hx
    subst hv
    refine ⟨⟨[some (.scr ns), some (.obj 1), some (I p), some (I k), some (I a), kd, due, some (I m), none, none, none, some (I v), none, none], sto⟩, ⟨[some (.scr ns), some (.obj 1), some (I p), some (I k), some (I a), kd, due, some (I m), none, none, none, some (I v), none, none], sto⟩, rfl, .inr ⟨_, ⟨[some (.scr ns), some (.obj 1), some (I p), some (I k), some (I a), kd, due, some (I m), none, none, none, some (I v), none, none], sto⟩, rfl, rfl, elt10_ok hp (e1 v) (e2 v) (hmul _ v), rfl⟩⟩
  · rw [List.nil_append]
    have e : (rgL 0 p).filterMap (fun x => some (PyData.int (W1 (asInt x) * W2 ((a - asInt x) % p)))) = ((List.range p.toNat).map fun (v : Nat) => W1 (0 + (v : Int)) * W2 ((a - (0 + (v : Int))) % p)).map .int := by
      unfold rgL
      rw [Int.sub_zero]
      generalize List.range p.toNat = l
      induction l with
      | nil => rfl
      | cons b l ih => exact congrArg (PyData.int (W1 (0 + (b : Int)) * W2 ((a - (0 + (b : Int))) % p)) :: ·) ih
    rw [e]; rfl
end K80

namespace K80
open PySem PySem.Spec PyProof.Rows L2 Fe
theorem chain_k {k : Int} {s : Sx} (h : s.env[3]? = some (some (I k))) : mChain (fun i j => decide (i < j)) (fun i j => decide (i < j)) (mC (.int 0)) (mVar 3) (mC (.int 58)) s = .ok (.dat (.bool (decide (0 < k) && decide (k < 58)))) s := by
  unfold mChain
  rw [mC_ap, bind_ok, mVar_ap, h]
  show (if decide (0 < k) = true then _ else _) = _
  by_cases hk : 0 < k
  · rw [if_pos (decide_eq_true hk), decide_eq_true hk]; rfl
  · rw [if_neg (by simpa using hk), decide_eq_false hk]; rfl
theorem t10 {ns : List Int} {sto sto' : List SO} {p k a r : Int} {kd due : Option AV} {l : List Int} (c1 : p < 14) (c2 : 0 < k) (c3 : k < 58) (ed : F__law_draw [.obj 1, I 2] sto = okI r sto')
    (ec : mLc [11] (mRng rg1 (mCons (mFrz (mVar 2)) mNil)) (stv 11) mYes elt10 ⟨[some (.scr ns), some (.obj 1), some (I p), some (I k), some (I a), kd, due, some (I (1 + r)), none, none, none, none, none, none], sto'⟩ = .ok (.own (l.map .int)) ⟨[some (.scr ns), some (.obj 1), some (I p), some (I k), some (I a), kd, due, some (I (1 + r)), none, none, none, none, none, none], sto'⟩)
    (ew : F_squares_ways [I p, I (k + (1 + r)), I a] sto' = okI l.sum sto') :
    q10 ⟨[some (.scr ns), some (.obj 1), some (I p), some (I k), some (I a), kd, due, none, none, none, none, none, none, none], sto⟩ = .ok .next ⟨[some (.scr ns), some (.obj 1), some (I p), some (I k), some (I a), kd, due, some (I (1 + r)), some (I l.sum), none, none, none, none, none], sto'⟩ := by
  unfold q10
  have ct : (mAnd (mTest (mOp gLt (mVar 2) (mC (.int 14)))) (mTest (mChain (fun i j => decide (i < j)) (fun i j => decide (i < j)) (mC (.int 0)) (mVar 3) (mC (.int 58))))) ⟨[some (.scr ns), some (.obj 1), some (I p), some (I k), some (I a), kd, due, none, none, none, none, none, none, none], sto⟩ = .ok true ⟨[some (.scr ns), some (.obj 1), some (I p), some (I k), some (I a), kd, due, none, none, none, none, none, none, none], sto⟩ := by
    rw [mAnd_ap]
    have e1 : (mTest (mOp gLt (mVar 2) (mC (.int 14)))) ⟨[some (.scr ns), some (.obj 1), some (I p), some (I k), some (I a), kd, due, none, none, none, none, none, none, none], sto⟩ = .ok true ⟨[some (.scr ns), some (.obj 1), some (I p), some (I k), some (I a), kd, due, none, none, none, none, none, none, none], sto⟩ := by
      simp [c1]
    rw [e1, bind_ok, if_pos rfl, mTest_ap, chain_k rfl, bind_ok, asB_ap, ofO_some, decide_eq_true c2, decide_eq_true c3]
    rfl
  rw [mIfS_true ct, mSeq_ap]
  have d1 : (mSet 7 (mOp gAdd (mC (.int 1)) (mCall 2 F__law_draw (mCons (mFrz (mVar 1)) (mCons (mC (.int 2)) mNil))))) ⟨[some (.scr ns), some (.obj 1), some (I p), some (I k), some (I a), kd, due, none, none, none, none, none, none, none], sto⟩ = .ok .next ⟨[some (.scr ns), some (.obj 1), some (I p), some (I k), some (I a), kd, due, some (I (1 + r)), none, none, none, none, none, none], sto'⟩ := by
    simp [ed]
  rw [d1, bind_ok]
  show mSeq _ _ _ = _
  rw [mSeq_ap]
  have d2 : (mSet 8 (mFn (g1 gSum) (mCons (mLc [11] (mRng rg1 (mCons (mFrz (mVar 2)) mNil)) (stv 11) mYes elt10) mNil))) ⟨[some (.scr ns), some (.obj 1), some (I p), some (I k), some (I a), kd, due, some (I (1 + r)), none, none, none, none, none, none], sto'⟩ = .ok .next ⟨[some (.scr ns), some (.obj 1), some (I p), some (I k), some (I a), kd, due, some (I (1 + r)), some (I l.sum), none, none, none, none, none], sto'⟩ := by
    rw [mSet_ap, mFn_ap, mCons_ap, ec, bind_ok, mNil_ap, bind_ok, bind_ok, g1_ap, gSum_own, ofO_some, bind_ok, stv_dat, bind_ok]
    rfl
  show (mSet 8 (mFn (g1 gSum) (mCons (mLc [11] (mRng rg1 (mCons (mFrz (mVar 2)) mNil)) (stv 11) mYes elt10) mNil)) _).bind _ = _
  rw [d2, bind_ok]
  show mIfS _ _ _ _ = _
  simp [ew]
theorem t10n {ns : List Int} {sto : List SO} {p k a : Int} {kd due : Option AV} (c : ¬ (p < 14 ∧ 0 < k ∧ k < 58)) :
    q10 ⟨[some (.scr ns), some (.obj 1), some (I p), some (I k), some (I a), kd, due, none, none, none, none, none, none, none], sto⟩ = .ok .next ⟨[some (.scr ns), some (.obj 1), some (I p), some (I k), some (I a), kd, due, none, none, none, none, none, none, none], sto⟩ := by
  unfold q10
  have ct : (mAnd (mTest (mOp gLt (mVar 2) (mC (.int 14)))) (mTest (mChain (fun i j => decide (i < j)) (fun i j => decide (i < j)) (mC (.int 0)) (mVar 3) (mC (.int 58))))) ⟨[some (.scr ns), some (.obj 1), some (I p), some (I k), some (I a), kd, due, none, none, none, none, none, none, none], sto⟩ = .ok false ⟨[some (.scr ns), some (.obj 1), some (I p), some (I k), some (I a), kd, due, none, none, none, none, none, none, none], sto⟩ := by
    rw [mAnd_ap]
    by_cases c1 : p < 14
    · have e1 : (mTest (mOp gLt (mVar 2) (mC (.int 14)))) ⟨[some (.scr ns), some (.obj 1), some (I p), some (I k), some (I a), kd, due, none, none, none, none, none, none, none], sto⟩ = .ok true ⟨[some (.scr ns), some (.obj 1), some (I p), some (I k), some (I a), kd, due, none, none, none, none, none, none, none], sto⟩ := by
        simp [c1]
      have e2 : (decide (0 < k) && decide (k < 58)) = false := by
        rw [Bool.eq_false_iff]
        intro z
        rw [Bool.and_eq_true] at z
        exact c ⟨c1, of_decide_eq_true z.1, of_decide_eq_true z.2⟩
      rw [e1, bind_ok, if_pos rfl, mTest_ap, chain_k rfl, bind_ok, e2, asB_ap, ofO_some]
    · have e1 : (mTest (mOp gLt (mVar 2) (mC (.int 14)))) ⟨[some (.scr ns), some (.obj 1), some (I p), some (I k), some (I a), kd, due, none, none, none, none, none, none, none], sto⟩ = .ok false ⟨[some (.scr ns), some (.obj 1), some (I p), some (I k), some (I a), kd, due, none, none, none, none, none, none, none], sto⟩ := by
        simp [c1]
      rw [e1, bind_ok, if_neg (by decide)]
  rw [mIfS_false ct]
  rfl
end K80

namespace K80
open PySem PySem.Spec PyProof.Rows L2 Fe
theorem PotOk.up {c : Nat} {g : List Int} {st tn : Int} (h : PotOk c g st tn) (hc : c < 1000) : PotOk (c + 1) g st tn := ⟨h.s0, h.s1, h.t0, by have := h.t1; omega, by omega, h.g1, h.gp⟩
theorem zero_add_map (p : Nat) (W1 W2 : Int → Int) (q a : Int) : ((List.range p).map fun (v : Nat) => W1 (0 + (v : Int)) * W2 ((a - (0 + (v : Int))) % q)) = (List.range p).map fun (v : Nat) => W1 v * W2 ((a - v) % q) := by
  congr 1
  funext v
  rw [Int.zero_add]
theorem mul_small {p a m : Nat} (hp : p ∈ smallP) (hp0 : 0 < p) (hm : m = 1 ∨ m = 2) (x v : Int) : mulOk x (ways p m (((a : Int) - v) % p)) = true := by
  have r0 := Int.emod_nonneg ((a : Int) - v) (show (p : Int) ≠ 0 by omega)
  have r1 := Int.emod_lt_of_pos ((a : Int) - v) (show (0 : Int) < p by omega)
  obtain ⟨w, hw⟩ : ∃ w : Nat, ((a : Int) - v) % p = w := ⟨(((a : Int) - v) % p).toNat, by omega⟩
  rw [hw]
  exact mulOk_r (small_of hp hm (by omega))
theorem s10t {ns : List Int} {sto sto' : List SO} {p k a m : Nat} {kd due : Option AV} {r : Int} (hp : p ∈ smallP) (hp0 : 0 < p) (hp2 : p < 14) (hk : 1 ≤ k) (hk2 : k ≤ 57) (hm : m = 1 ∨ m = 2) (hr : 1 + r = (m : Int)) (ha : a < p) (ed : F__law_draw [.obj 1, I 2] sto = okI r sto') :
    ∃ tot, q10 ⟨[some (.scr ns), some (.obj 1), some (I p), some (I k), some (I a), kd, due, none, none, none, none, none, none, none], sto⟩ = .ok .next ⟨[some (.scr ns), some (.obj 1), some (I p), some (I k), some (I a), kd, due, some (I (1 + r)), some (I tot), none, none, none, none, none], sto'⟩ := by
  have e1 := comp10 (ns := ns) (sto := sto') (p := p) (k := k) (m := m) (a := a) (kd := kd) (due := due) (fun v => ways p k v) (fun v => ways p m v) (by omega) (by omega) (fun v => e_ways (by omega) (by omega) (by omega) (by omega)) (fun v => e_ways (by omega) (by omega) (by omega) (by omega)) (mul_small hp hp0 hm)
  rw [Int.toNat_natCast, zero_add_map] at e1
  have es := sum_of hp hk hk2 hm ha
  have e2 := e_ways (p := p) (k := (k : Int) + m) (a := a) (sto := sto') (by omega) (by omega) (by omega) (by omega)
  rw [← es] at e2
  rw [← hr] at e1 e2
  exact ⟨_, t10 (by omega) (by omega) (by omega) ed e1 e2⟩
theorem s10 {ns : List Int} {g : List Int} {st tn : Int} {c p a : Nat} {k : Int} {kd due : Option AV} (h : PotOk c g st tn) (hc : c ≤ 100) (hpp : p ∈ primes) (ha : a < p) (hk : 0 ≤ k) : ∃ m tot g' st' tn', q10 ⟨[some (.scr ns), some (.obj 1), some (I p), some (I k), some (I a), kd, due, none, none, none, none, none, none, none], potS g st tn⟩ = .ok .next ⟨[some (.scr ns), some (.obj 1), some (I p), some (I k), some (I a), kd, due, m, tot, none, none, none, none, none], potS g' st' tn'⟩ ∧ PotOk (c + 1) g' st' tn' := by
  by_cases cc : (p : Int) < 14 ∧ 0 < k ∧ k < 58
  · obtain ⟨k', rfl⟩ : ∃ k' : Nat, k = k' := ⟨k.toNat, by omega⟩
    obtain ⟨r, g1, st1, tn1, e1, r0, r1, h1⟩ := e_draw (many := 2) h (by omega) (by decide) (by decide)
    have hsm : p ∈ smallP := by
      have c1 := cc.1
      simp [primes] at hpp
      simp [smallP]
      omega
    have r1' : r < 2 := r1
    have q1 : 0 < p := by omega
    have q2 : p < 14 := by have := cc.1; omega
    have q3 : 1 ≤ k' := by have := cc.2.1; omega
    have q4 : k' ≤ 57 := by have := cc.2.2; omega
    obtain ⟨m, hm, hr⟩ : ∃ m : Nat, (m = 1 ∨ m = 2) ∧ 1 + r = (m : Int) := by
      have : r = 0 ∨ r = 1 := by omega
      rcases this with rfl | rfl
      · exact ⟨1, .inl rfl, rfl⟩
      · exact ⟨2, .inr rfl, rfl⟩
    obtain ⟨tot, e⟩ := s10t (ns := ns) (kd := kd) (due := due) hsm q1 q2 q3 q4 hm hr ha e1
    exact ⟨_, _, g1, st1, tn1, e, h1⟩
  · exact ⟨none, none, g, st, tn, t10n cc, h.up (by omega)⟩
theorem t11 {ns : List Int} {sto : List SO} {p a w : Int} {k kd due m tot : Option AV} (e : a ≠ 0 → F__law_sign [I p, I a] sto = okI w sto) :
    q11 ⟨[some (.scr ns), some (.obj 1), some (I p), k, some (I a), kd, due, m, tot, none, none, none, none, none], sto⟩ = .ok .next ⟨[some (.scr ns), some (.obj 1), some (I p), k, some (I a), kd, due, m, tot, some (I (if a = 0 then 0 else if p = 2 ∨ w = 1 then 1 else 2)), none, none, none, none], sto⟩ := by
  unfold q11
  by_cases h0 : a = 0
  · simp [h0]
  · by_cases h2 : p = 2
    · simp [h0, h2]
    · by_cases h3 : w = 1
      · simp [h0, h2, h3, e h0]
      · simp [h0, h2, h3, e h0]
theorem t12 {ns : List Int} {sto : List SO} {p a w : Int} {k kd due m tot : Option AV} (e : F_least_squares [I p, I a] sto = okI w sto) (hr : reprOk (.list [.int w, .int w]) = true) :
    q12 ⟨[some (.scr ns), some (.obj 1), some (I p), k, some (I a), kd, due, m, tot, some (I w), none, none, none, none], sto⟩ = .ok .next ⟨[some (.scr ns), some (.obj 1), some (I p), k, some (I a), kd, due, m, tot, some (I w), none, none, none, none], sto⟩ := by
  unfold q12
  simp [e, mCallK_ap, perm2, LIM, repr_own hr]
theorem t13 {ns : List Int} {sto : List SO} {p : Int} {a k kd due m tot l : Option AV} :
    q13 ⟨[some (.scr ns), some (.obj 1), some (I p), k, a, kd, due, m, tot, l, none, none, none, none], sto⟩ = .ok .next ⟨[some (.scr ns), some (.obj 1), some (I p), k, a, kd, due, m, tot, some (I (nonD p)), none, none, none, none], sto⟩ := by
  unfold q13 nonD
  by_cases h2 : p = 2
  · simp [h2]
  · by_cases h3 : p % 4 = 1
    · simp [h2, h3, mod_ii (show (0 : Int) < 4 by decide)]
    · simp [h2, h3, mod_ii (show (0 : Int) < 4 by decide)]
theorem t14 {ns : List Int} {sto : List SO} {p : Int} {a k kd due m tot : Option AV} :
    q14 ⟨[some (.scr ns), some (.obj 1), some (I p), k, a, kd, due, m, tot, some (I (nonD p)), none, none, none, none], sto⟩ = .ok .next ⟨[some (.scr ns), some (.obj 1), some (I p), k, a, kd, due, m, tot, some (I (nonD p)), none, none, none, none], sto⟩ := by
  have hr : reprOk (.list [.int (nonD p), .int (nonD p)]) = true := rep2 (by unfold nonD; split <;> decide)
  unfold q14
  simp [e_nought, mCallK_ap, perm1, LIM, repr_own hr]
end K80

namespace K80
open PySem PySem.Spec PyProof.Rows L2 Fe
@[simp] theorem mAsg_ap {f : Sx → Res AV} {g : AV → Sx → Res Unit} {s s1 : Sx} {d : PyData} (h : f s = .ok (.dat d) s1) : mAsg f g s = (g (.dat d) s1).bind fun _ s2 => .ok .next s2 := by
  unfold mAsg
  rw [h]; rfl
def pairs1 : List PyData := [.tuple [.int 2, .int 1], .tuple [.int 2, .int 5], .tuple [.int 3, .int 2], .tuple [.int 3, .int 4], .tuple [.int 5, .int 3], .tuple [.int 7, .int 2], .tuple [.int 13, .int 2], .tuple [.int 97, .int 1], .tuple [.int 2, .int 8]]
def pairs2 : List PyData := [.tuple [.int 2, .int 12], .tuple [.int 3, .int 8], .tuple [.int 5, .int 5], .tuple [.int 7, .int 5], .tuple [.int 59, .int 2], .tuple [.int 997, .int 2], .tuple [.int 2, .int 60], .tuple [.int 3, .int 60]]
theorem t15 {ns : List Int} {sto sto' : List SO} {p k : Int} {o2 o3 a kd due m tot l : Option AV} (e : F__law_pick [.obj 1, .dat (.list pairs1)] sto = .ok (.dat (.tuple [.int p, .int k])) ⟨[], sto'⟩) :
    q15 ⟨[some (.scr ns), some (.obj 1), o2, o3, a, kd, due, m, tot, l, none, none, none, none], sto⟩ = .ok .next ⟨[some (.scr ns), some (.obj 1), some (I p), some (I k), a, kd, due, m, tot, l, none, none, none, none], sto'⟩ := by
  unfold q15
  unfold pairs1 at e
  refine (mAsg_ap (d := .tuple [.int p, .int k]) (s1 := ⟨[some (.scr ns), some (.obj 1), o2, o3, a, kd, due, m, tot, l, none, none, none, none], sto'⟩) ?_).trans rfl
  simp [e, LIM]
theorem t19 {ns : List Int} {sto sto' : List SO} {p k : Int} {o2 o3 a kd due m tot l rws v r x : Option AV} (e : F__law_pick [.obj 1, .dat (.list pairs2)] sto = .ok (.dat (.tuple [.int p, .int k])) ⟨[], sto'⟩) :
    q19 ⟨[some (.scr ns), some (.obj 1), o2, o3, a, kd, due, m, tot, l, rws, v, r, x], sto⟩ = .ok .next ⟨[some (.scr ns), some (.obj 1), some (I p), some (I k), a, kd, due, m, tot, l, rws, v, r, x], sto'⟩ := by
  unfold q19
  unfold pairs2 at e
  refine (mAsg_ap (d := .tuple [.int p, .int k]) (s1 := ⟨[some (.scr ns), some (.obj 1), o2, o3, a, kd, due, m, tot, l, rws, v, r, x], sto'⟩) ?_).trans rfl
  simp [e, LIM]
theorem t16 {ns : List Int} {sto sto' : List SO} {p k r : Int} {a kd due m tot l : Option AV} {fo : AV} {rows : List (List PyData)} (e1 : F__law_draw [.obj 1, I p] sto = okI r sto') (e2 : F__law_all_rows [I p, I k] sto' = .ok fo ⟨[], sto'⟩) (hf : FoundIs fo rows) :
    q16 ⟨[some (.scr ns), some (.obj 1), some (I p), some (I k), a, kd, due, m, tot, l, none, none, none, none], sto⟩ = .ok .next ⟨[some (.scr ns), some (.obj 1), some (I p), some (I k), some (I r), kd, due, m, tot, l, some (.dat (.list (rows.map .tuple))), none, none, none], sto'⟩ := by
  unfold q16
  refine (mAsg_ap (d := .tuple [.int r, .list (rows.map .tuple)]) (s1 := ⟨[some (.scr ns), some (.obj 1), some (I p), some (I k), a, kd, due, m, tot, l, none, none, none, none], sto'⟩) ?_).trans rfl
  rcases hf with e | e <;> subst e
  · simp [e1, e2, LIM]
  · simp [e1, e2, LIM]
theorem t17 {ns : List Int} {sto : List SO} {p k num : Int} {n : Nat} {kd due m tot l : Option AV} (hp : 0 < p) (hp2 : p ≤ 1000) (hn : n < 900) (hl : p.toNat ^ n ≤ 3000) : ∃ b',
    q17 ⟨[some (.scr ns), some (.obj 1), some (I p), some (I k), some (I num), kd, due, m, tot, l, some (.dat (.list ((iterR p n [[]]).map .tuple))), none, none, none], sto⟩ = .ok .next ⟨[some (.scr ns), some (.obj 1), some (I p), some (I k), some (I num), kd, some (.dat (.tuple (rowsD p num n))), m, tot, l, some (.dat (.list ((iterR p n [[]]).map .tuple))), none, none, b'], sto⟩ := by
  have hE : EOk 12 13 2 4 (fun a b => [some (.scr ns), some (.obj 1), some (I p), some (I k), some (I num), kd, due, m, tot, l, some (.dat (.list ((iterR p n [[]]).map .tuple))), none, a, b]) p num := ⟨fun _ _ _ => rfl, fun _ _ _ => rfl, fun _ _ => rfl, fun _ _ => rfl, fun _ _ => rfl, fun _ _ => rfl⟩
  obtain ⟨b', ec⟩ := filt (sto := sto) hE hp (iterR p n [[]]) [] none none (fun r hr => ⟨iterR_int hp2 _ _ nilRow r hr, by have := iterR_len n [[]] 0 nilLen r hr; omega⟩) (by rw [iterR_length]; show 0 + 1 * _ ≤ 16777216; omega)
  rw [List.nil_append] at ec
  refine ⟨b', ?_⟩
  unfold q17
  have ci : (mSeqI (mFrz (mVar 10))) ⟨[some (.scr ns), some (.obj 1), some (I p), some (I k), some (I num), kd, due, m, tot, l, some (.dat (.list ((iterR p n [[]]).map .tuple))), none, none, none], sto⟩ = .ok ((iterR p n [[]]).map fun r => AV.dat (.tuple r)) ⟨[some (.scr ns), some (.obj 1), some (I p), some (I k), some (I num), kd, due, m, tot, l, some (.dat (.list ((iterR p n [[]]).map .tuple))), none, none, none], sto⟩ := by
    show Res.ok (((iterR p n [[]]).map PyData.tuple).map AV.dat) _ = _
    rw [List.map_map]; rfl
  rw [mSet_ap, mFn_ap, mCons_ap, mLc_ok ci ec, bind_ok]
  rfl
theorem t18 {ns : List Int} {sto : List SO} {p k num : Int} {D : PyData} {kd m tot l rws v r x : Option AV} (e : F__law_is_asked [I p, I k, I num, .dat (.list [.str "told", D])] sto = .ok (.dat (.bool true)) ⟨[], sto⟩) :
    q18 ⟨[some (.scr ns), some (.obj 1), some (I p), some (I k), some (I num), kd, some (.dat D), m, tot, l, rws, v, r, x], sto⟩ = .ok .next ⟨[some (.scr ns), some (.obj 1), some (I p), some (I k), some (I num), kd, some (.dat D), m, tot, l, rws, v, r, x], sto⟩ := by
  unfold q18
  simp [e, LIM]
theorem t20 {ns : List Int} {sto : List SO} {p k : Int} {a kd due m tot l rws v r x : Option AV} (e : F__law_is_asked [I p, I k, I 1, .dat (.list [.str "many", .int 3000])] sto = .ok (.dat (.bool true)) ⟨[], sto⟩) :
    outR (q20 ⟨[some (.scr ns), some (.obj 1), some (I p), some (I k), a, kd, due, m, tot, l, rws, v, r, x], sto⟩) = .ok (.dat (.bool true)) ⟨[], sto⟩ := by
  unfold q20
  simp [e, LIM]
end K80

namespace K80
open PySem PySem.Spec PyProof.Rows L2 Fe
theorem row_show : ∀ ns : List Int, (∀ n ∈ ns, n.natAbs < 2 ^ 60) → PyData.showableAll (ns.map .int) = true ∧ PyData.hasDictAll (ns.map .int) = false ∧ wtAll (ns.map .int) = ns.length * 2002
  | [], _ => ⟨rfl, rfl, rfl⟩
  | n :: ns, h => by
    obtain ⟨a, b, c⟩ := row_show ns fun m hm => h m (List.mem_cons_of_mem _ hm)
    have hn := h n (List.mem_cons_self ..)
    refine ⟨?_, b, ?_⟩
    · show (PyData.showable (.int n) && PyData.showableAll (ns.map .int)) = true
      rw [a, Bool.and_true]
      exact decide_eq_true (small_log (by omega))
    · show 2000 + 2 + wtAll (ns.map .int) = _
      rw [c, List.length_cons, Nat.succ_mul]; omega
theorem rows_show : ∀ rows : List (List PyData), (∀ r ∈ rows, IntRow r ∧ r.length ≤ 8) → PyData.showableAll (rows.map .tuple) = true ∧ PyData.hasDictAll (rows.map .tuple) = false ∧ PyData.depthAll (rows.map .tuple) ≤ 2 ∧ wtAll (rows.map .tuple) ≤ rows.length * 16022
  | [], _ => ⟨rfl, rfl, by decide, Nat.le_refl _⟩
  | r :: rows, h => by
    obtain ⟨a, b, c, d⟩ := rows_show rows fun m hm => h m (List.mem_cons_of_mem _ hm)
    obtain ⟨⟨ns, e, hn⟩, hl⟩ := h r (List.mem_cons_self ..)
    subst e
    obtain ⟨a1, b1, w1⟩ := row_show ns hn
    have d1 := depth_ints ns
    rw [List.length_map] at hl
    refine ⟨?_, ?_, ?_, ?_⟩
    · show (PyData.showableAll (ns.map .int) && PyData.showableAll (rows.map .tuple)) = true
      rw [a1, a]; rfl
    · show (PyData.hasDictAll (ns.map .int) || PyData.hasDictAll (rows.map .tuple)) = false
      rw [b1, b]; rfl
    · rw [List.map_cons, PyData.depthAll, PyData.depth]
      omega
    · show (4 + wtAll (ns.map .int)) + 2 + wtAll (rows.map .tuple) ≤ _
      rw [w1, List.length_cons, Nat.succ_mul]
      omega
theorem told_repr {p num : Int} {n : Nat} (hp2 : p ≤ 1000) (hn : n ≤ 8) (hl : p.toNat ^ n ≤ 256) : reprOk (.list [.list [.str "told", .tuple (rowsD p num n)], .list [.str "told", .tuple (rowsD p num n)]]) = true := by
  have hrows : ∀ r ∈ (iterR p n [[]]).filter (fun r => sqs r % p == num), IntRow r ∧ r.length ≤ 8 := fun r hr => by
    have hr := (List.mem_filter.mp hr).1
    have := iterR_len n [[]] 0 nilLen r hr
    exact ⟨iterR_int hp2 _ _ nilRow r hr, by omega⟩
  obtain ⟨a, b, c, d⟩ := rows_show _ hrows
  have hlen : ((iterR p n [[]]).filter (fun r => sqs r % p == num)).length ≤ 256 := by
    refine Nat.le_trans (List.length_filter_le _ _) ?_
    rw [iterR_length]
    show 1 * _ ≤ _
    omega
  have hw : wtAll (rowsD p num n) ≤ 256 * 16022 := Nat.le_trans d (Nat.mul_le_mul_right _ hlen)
  have a' : PyData.showableAll (rowsD p num n) = true := a
  have b' : PyData.hasDictAll (rowsD p num n) = false := b
  have c' : PyData.depthAll (rowsD p num n) ≤ 2 := c
  refine reprOk_of ?_ ?_ ?_ ?_
  · simp [PyData.showable, PyData.showableAll, a']
  · simp [PyData.hasDict, PyData.hasDictAll, b']
  · simp only [PyData.depth, PyData.depthAll]
    omega
  · have hs : (reprText "told").length ≤ 100 := by decide +kernel
    simp only [wt, wtAll]
    omega
theorem many_repr : reprOk (.list [.list [.str "many", .int 3000], .list [.str "many", .int 3000]]) = true := by decide +kernel
theorem pair1 {i : Nat} {d : PyData} (h : pairs1[i]? = some d) : ∃ p k : Nat, d = .tuple [.int p, .int k] ∧ 0 < p ∧ p ≤ 1000 ∧ k ≤ 8 ∧ p ^ k ≤ 256 := by
  have hm := List.mem_of_getElem? h
  simp only [pairs1, List.mem_cons, List.not_mem_nil, or_false] at hm
  rcases hm with e | e | e | e | e | e | e | e | e
  · exact ⟨2, 1, e, by decide, by decide, by decide, by decide⟩
  · exact ⟨2, 5, e, by decide, by decide, by decide, by decide⟩
  · exact ⟨3, 2, e, by decide, by decide, by decide, by decide⟩
  · exact ⟨3, 4, e, by decide, by decide, by decide, by decide⟩
  · exact ⟨5, 3, e, by decide, by decide, by decide, by decide⟩
  · exact ⟨7, 2, e, by decide, by decide, by decide, by decide⟩
  · exact ⟨13, 2, e, by decide, by decide, by decide, by decide⟩
  · exact ⟨97, 1, e, by decide, by decide, by decide, by decide⟩
  · exact ⟨2, 8, e, by decide, by decide, by decide, by decide⟩
theorem pair2 {i : Nat} {d : PyData} (h : pairs2[i]? = some d) : ∃ p k : Int, d = .tuple [.int p, .int k] ∧ 0 < p ∧ p ≤ 1000 ∧ 0 ≤ k ∧ k < 900 ∧ 3000 < p ^ k.toNat := by
  have hm := List.mem_of_getElem? h
  simp only [pairs2, List.mem_cons, List.not_mem_nil, or_false] at hm
  rcases hm with e | e | e | e | e | e | e | e
  · exact ⟨2, 12, e, by decide, by decide, by decide, by decide, by decide⟩
  · exact ⟨3, 8, e, by decide, by decide, by decide, by decide, by decide⟩
  · exact ⟨5, 5, e, by decide, by decide, by decide, by decide, by decide⟩
  · exact ⟨7, 5, e, by decide, by decide, by decide, by decide, by decide⟩
  · exact ⟨59, 2, e, by decide, by decide, by decide, by decide, by decide⟩
  · exact ⟨997, 2, e, by decide, by decide, by decide, by decide, by decide⟩
  · exact ⟨2, 60, e, by decide, by decide, by decide, by decide, by decide⟩
  · exact ⟨3, 60, e, by decide, by decide, by decide, by decide, by decide⟩
end K80

namespace K80
open PySem PySem.Spec PyProof.Rows L2 Fe
theorem seq_next {f g : Sx → Res Fl} {s s1 : Sx} (h : f s = .ok .next s1) : mSeq f g s = g s1 := by rw [mSeq_ap, h]; rfl
def tailB : Sx → Res Fl := mSeq q18 (mSeq q19 q20)
def tailA : Sx → Res Fl := mSeq q15 (mSeq q16 (mSeq q17 tailB))
theorem tb {ns : List Int} {g : List Int} {st tn : Int} {c : Nat} {p k num : Int} {D : PyData} {kd m tot l rws v r x : Option AV} (h : PotOk c g st tn) (hc : c ≤ 200)
    (e : F__law_is_asked [I p, I k, I num, .dat (.list [.str "told", D])] (potS g st tn) = .ok (.dat (.bool true)) ⟨[], potS g st tn⟩) :
    ∃ s', outR (tailB ⟨[some (.scr ns), some (.obj 1), some (I p), some (I k), some (I num), kd, some (.dat D), m, tot, l, rws, v, r, x], potS g st tn⟩) = .ok (.dat (.bool true)) s' := by
  obtain ⟨i, d, g', st', tn', e1, hd, h'⟩ := e_pick (ds := pairs2) h (by omega) (by decide) (by decide)
  obtain ⟨p', k', rfl, hp, hp2, hk, hk2, hl⟩ := pair2 hd
  have ea := e_asked (num := 1) (sto := potS g' st' tn') (av := .dat (.list [.str "many", .int 3000])) rfl (fun b sto => e_toldX (num := 1) (b := b) (sto := sto) hp hp2 hk hk2 hl) many_repr
  refine ⟨_, (congrArg outR ((seq_next (t18 e)).trans (seq_next (t19 e1)))).trans (t20 ea)⟩
theorem ta {ns : List Int} {g : List Int} {st tn : Int} {c : Nat} {o2 o3 a kd due m tot l : Option AV} (h : PotOk c g st tn) (hc : c ≤ 100) :
    ∃ s', outR (tailA ⟨[some (.scr ns), some (.obj 1), o2, o3, a, kd, due, m, tot, l, none, none, none, none], potS g st tn⟩) = .ok (.dat (.bool true)) s' := by
  obtain ⟨i, d, g1, st1, tn1, e1, hd, h1⟩ := e_pick (ds := pairs1) h (by omega) (by decide) (by decide)
  obtain ⟨p, k, rfl, hp, hp2, hk, hl⟩ := pair1 hd
  have hp' : (0 : Int) < (p : Int) := by omega
  have hp2' : (p : Int) ≤ 1000 := by omega
  have hl' : (p : Int).toNat ^ (k : Int).toNat ≤ 256 := by simpa using hl
  have hk8 : (k : Int).toNat ≤ 8 := by omega
  have hk0 : (0 : Int) ≤ (k : Int) := by omega
  have hk9 : (k : Int) < 900 := by omega
  revert hp' hp2' hl' hk8 hk0 hk9 e1
  generalize (p : Int) = P
  generalize (k : Int) = K
  intro e1 hp' hp2' hl' hk8 hk0 hk9
  obtain ⟨r, g2, st2, tn2, e2, hr0, hr1, h2⟩ := e_draw (many := P) h1 (by omega) hp' (divOk_of hp' (by omega))
  obtain ⟨fo, e3, hf⟩ := e_all (sto := potS g2 st2 tn2) hp' hp2' hk0 hk9 (by omega)
  obtain ⟨b', e4⟩ := t17 (ns := ns) (sto := potS g2 st2 tn2) (p := P) (k := K) (num := r) (n := K.toNat) (kd := kd) (due := due) (m := m) (tot := tot) (l := l) hp' hp2' (by omega) (by omega)
  have ea : F__law_is_asked [I P, I K, I r, .dat (.list [.str "told", .tuple (rowsD P r K.toNat)])] (potS g2 st2 tn2) = .ok (.dat (.bool true)) ⟨[], potS g2 st2 tn2⟩ :=
    e_asked (av := .own [.str "told", .tuple (rowsD P r K.toNat)]) rfl (fun b sto => e_told (num := r) (b := b) (sto := sto) hp' hp2' hk0 hk9 (by omega)) (told_repr hp2' hk8 hl')
  obtain ⟨s', e5⟩ := tb (ns := ns) (kd := kd) (m := m) (tot := tot) (l := l) (rws := some (.dat (.list ((iterR P K.toNat [[]]).map .tuple)))) (v := none) (r := none) (x := b') h2 (by omega) ea
  exact ⟨s', (congrArg outR ((seq_next (t15 e1)).trans ((seq_next (t16 e2 e3 hf)).trans (seq_next e4)))).trans e5⟩
theorem primes_ok : ∀ p ∈ primes, 0 < p ∧ p ≤ 1000 := by decide
theorem plain : ∀ ns : List Int, ns.length ≤ 63 → (∀ z ∈ ns, Builtin.Int.intBits z ≤ 1048576) → ∃ s', F_law [.scr ns] [] = .ok (.dat (.bool true)) s' := by
  intro ns hn _
  obtain ⟨g0, st0, e0, h0⟩ := s0 ns hn
  obtain ⟨p, g1, st1, tn1, hpp, e1, h1⟩ := s1 (ns := ns) h0 (by omega)
  obtain ⟨hp, hp2⟩ := primes_ok p hpp
  obtain ⟨k, g2, st2, tn2, hk, hk2, e2, h2⟩ := s2 (ns := ns) (p := some (I p)) h1 (by omega)
  obtain ⟨a, g3, st3, tn3, ha, e3, h3⟩ := s3 (ns := ns) (k := some (I k)) h2 (by omega) hp hp2
  obtain ⟨k0, e4, e5⟩ := s45 (ns := ns) (sto := potS g3 st3 tn3) (a := some (I a)) hpp hk
  have e6 := s6 (ns := ns) (sto := potS g3 st3 tn3) (p := p) (a := some (I a)) hk hk2
  have e7 := s7 (ns := ns) (sto := potS g3 st3 tn3) (a := a) (kd := some (.dat (kindD p k))) hp hp2 hk hk2
  have e8 := s8 (ns := ns) (sto := potS g3 st3 tn3) (kd := some (.dat (kindD p k))) hpp ha hp hp2 hk hk2
  have e9 := s9 (ns := ns) (sto := potS g3 st3 tn3) (kd := some (.dat (kindD p k))) hpp ha hk
  obtain ⟨m, tot, g4, st4, tn4, e10, h4⟩ := s10 (ns := ns) (kd := some (.dat (kindD p k))) (due := some (I (lways p k a))) h3 (by omega) hpp ha hk
  have hpI : (0 : Int) < (p : Int) := by omega
  have hpI2 : (p : Int) < 2 ^ 60 := by omega
  have ex := least_eq hpp ha
  have el := e_least (a := (a : Int)) (sto := potS g4 st4 tn4) hpI hpI2
  rw [ex] at el
  have e11 := t11 (ns := ns) (sto := potS g4 st4 tn4) (p := p) (a := a) (w := lsq p a) (k := some (I k)) (kd := some (.dat (kindD p k))) (due := some (I (lways p k a))) (m := m) (tot := tot) (fun _ => e_lsign hpI hpI2)
  have e12 := t12 (ns := ns) (k := some (I k)) (kd := some (.dat (kindD p k))) (due := some (I (lways p k a))) (m := m) (tot := tot) el (rep2 (small_log (by split <;> (try split) <;> decide)))
  have e13 := t13 (ns := ns) (sto := potS g4 st4 tn4) (p := p) (a := some (I a)) (k := some (I k)) (kd := some (.dat (kindD p k))) (due := some (I (lways p k a))) (m := m) (tot := tot) (l := some (I (if (a : Int) = 0 then 0 else if (p : Int) = 2 ∨ lsq p a = 1 then 1 else 2)))
  have e14 := t14 (ns := ns) (sto := potS g4 st4 tn4) (p := p) (a := some (I a)) (k := some (I k)) (kd := some (.dat (kindD p k))) (due := some (I (lways p k a))) (m := m) (tot := tot)
  obtain ⟨s', eT⟩ := ta (ns := ns) (o2 := some (I p)) (o3 := some (I k)) (a := some (I a)) (kd := some (.dat (kindD p k))) (due := some (I (lways p k a))) (m := m) (tot := tot) (l := some (I (nonD p))) h4 (by omega)
  refine ⟨s', ?_⟩
  unfold F_law
  rw [run_out (n := 1) rfl rfl, law_split]
  exact (congrArg outR ((seq_next e0).trans ((seq_next e1).trans ((seq_next e2).trans ((seq_next e3).trans ((seq_next e4).trans ((seq_next e5).trans ((seq_next e6).trans ((seq_next e7).trans ((seq_next e8).trans ((seq_next e9).trans ((seq_next e10).trans ((seq_next e11).trans ((seq_next e12).trans ((seq_next e13).trans (seq_next e14)))))))))))))))).trans eT
end K80

set_option maxHeartbeats 0
namespace K80
open PySem PySem.Spec PyProof.Rows L2 Fe
end K80
namespace K80
open PySem PySem.Spec PyProof.Rows L2 Fe
def dd_power : He.DefD := ⟨("power", none), "power", "power", defArgs s_power, defBody s_power, defScope s_power, [], []⟩
def dd_power_left : He.DefD := ⟨("power_left", none), "power_left", "power_left", defArgs s_power_left, defBody s_power_left, defScope s_power_left, [], []⟩
def dd_square_sign : He.DefD := ⟨("square_sign", none), "square_sign", "square_sign", defArgs s_square_sign, defBody s_square_sign, defScope s_square_sign, [], []⟩
def dd_squares_kind : He.DefD := ⟨("squares_kind", none), "squares_kind", "squares_kind", defArgs s_squares_kind, defBody s_squares_kind, defScope s_squares_kind, [], []⟩
def dd_squares_ways : He.DefD := ⟨("squares_ways", none), "squares_ways", "squares_ways", defArgs s_squares_ways, defBody s_squares_ways, defScope s_squares_ways, [], []⟩
def dd_squares_rows : He.DefD := ⟨("squares_rows", none), "squares_rows", "squares_rows", defArgs s_squares_rows, defBody s_squares_rows, defScope s_squares_rows, [], []⟩
def dd_least_squares : He.DefD := ⟨("least_squares", none), "least_squares", "least_squares", defArgs s_least_squares, defBody s_least_squares, defScope s_least_squares, [], []⟩
def dd_least_nought_squares : He.DefD := ⟨("least_nought_squares", none), "least_nought_squares", "least_nought_squares", defArgs s_least_nought_squares, defBody s_least_nought_squares, defScope s_least_nought_squares, [], []⟩
def dd__law_pot : He.DefD := ⟨("_law_pot", none), "_law_pot", "_law_pot", defArgs s__law_pot, defBody s__law_pot, defScope s__law_pot, [], []⟩
def dd__law_draw : He.DefD := ⟨("_law_draw", none), "_law_draw", "_law_draw", defArgs s__law_draw, defBody s__law_draw, defScope s__law_draw, [], []⟩
def dd__law_pick : He.DefD := ⟨("_law_pick", none), "_law_pick", "_law_pick", defArgs s__law_pick, defBody s__law_pick, defScope s__law_pick, [], []⟩
def dd__law_all_rows : He.DefD := ⟨("_law_all_rows", none), "_law_all_rows", "_law_all_rows", defArgs s__law_all_rows, defBody s__law_all_rows, defScope s__law_all_rows, [], []⟩
def dd__law_power : He.DefD := ⟨("_law_power", none), "_law_power", "_law_power", defArgs s__law_power, defBody s__law_power, defScope s__law_power, [], []⟩
def dd__law_told : He.DefD := ⟨("_law_told", none), "_law_told", "_law_told", defArgs s__law_told, defBody s__law_told, defScope s__law_told, [], []⟩
def dd__law_summed : He.DefD := ⟨("_law_summed", none), "_law_summed", "_law_summed", defArgs s__law_summed, defBody s__law_summed, defScope s__law_summed, [], []⟩
def dd__law_sign : He.DefD := ⟨("_law_sign", none), "_law_sign", "_law_sign", defArgs s__law_sign, defBody s__law_sign, defScope s__law_sign, [], []⟩
def dd__law_remainder : He.DefD := ⟨("_law_remainder", none), "_law_remainder", "_law_remainder", defArgs s__law_remainder, defBody s__law_remainder, defScope s__law_remainder, [], []⟩
def dd__law_ways : He.DefD := ⟨("_law_ways", none), "_law_ways", "_law_ways", defArgs s__law_ways, defBody s__law_ways, defScope s__law_ways, [], []⟩
def dd__law_is_asked : He.DefD := ⟨("_law_is_asked", none), "_law_is_asked", "_law_is_asked", defArgs s__law_is_asked, defBody s__law_is_asked, defScope s__law_is_asked, [], []⟩
def dd_law : He.DefD := ⟨("law", none), "law", "law", defArgs s_law, defBody s_law, defScope s_law, [], []⟩
def hfn : List He.DefD := [dd_power, dd_power_left, dd_square_sign, dd_squares_kind, dd_squares_ways, dd_squares_rows, dd_least_squares, dd_least_nought_squares, dd__law_pot, dd__law_draw, dd__law_pick, dd__law_all_rows, dd__law_power, dd__law_told, dd__law_summed, dd__law_sign, dd__law_remainder, dd__law_ways, dd__law_is_asked, dd_law]
def hfa : List He.Fa := [.glo "power", .glo "power_left", .glo "square_sign", .glo "squares_kind", .glo "squares_ways", .glo "squares_rows", .glo "least_squares", .glo "least_nought_squares", .glo "_law_pot", .glo "_law_draw", .glo "_law_pick", .glo "_law_all_rows", .glo "_law_power", .glo "_law_told", .glo "_law_summed", .glo "_law_sign", .glo "_law_remainder", .glo "_law_ways", .glo "_law_is_asked", .glo "law", .free "ValueError", .free "abs", .free "enumerate", .free "int", .free "isinstance", .free "len", .free "range", .free "repr", .free "sum", .free "super", .free "tuple", .int "MAX_ROWS" 3000, .glo "SpaceError", .glo "TooMany", .exm "TooMany" "SpaceError" true]
abbrev hR : PySem.W.OpenRow := PySem.W.OpenLaw.row PySem.Challenge.rw_formspaces_k80_whole_main_squares_summed
def hxs : List (Str × Str) := [("TooMany", "limit")]
def ci_TooMany : Stmt := match top 3 with
  | .ClassDef (body := b) .. => b.getD 0 (.Pass ⟨0, 0, 0, 0⟩)
  | _ => .Pass ⟨0, 0, 0, 0⟩
def hvs : List (Option SupW) := [some ⟨"TooMany.__init__", defArgs ci_TooMany, .stmts (defBody ci_TooMany), defScope ci_TooMany, true⟩]
abbrev hfile : Str := PySem.Challenge.pw_formspaces_k80_whole_main_squares_summed.main.file
abbrev hk : PySem.W.Hook := hookX 4 hfa hfn hxs hfile hvs
def hob (s : PySem.W.SharedT) : AlX := obsX 4 hfa hfn hxs hfile (HandSHeadRun.getT s)
theorem hob_eq (s : PySem.W.SharedT) : hob s = hk.obs s.abs := obsX_eq (HandSHeadRun.getT_eq s)
def loose : List Str := (["MAX_ROWS", "SpaceError", "TooMany", "power", "power_left", "square_sign", "squares_kind", "squares_ways", "squares_rows", "least_squares", "least_nought_squares", "_law_pot", "_law_draw", "_law_pick", "_law_all_rows", "_law_power", "_law_told", "_law_summed", "_law_sign", "_law_remainder", "_law_ways", "_law_is_asked"] : List Str)
theorem hrun (w : World) : HandSHeadRun.RunEq hR (PySem.W.view hR.prog [25]) hk hob 4000 loose w := by
  intro os
  kernel_rfl
theorem mkEn {K : PySem.W.Frag} {h : Heap} {mg : Str → Option Value} (X : K.In h) (G : h.Ns mainGlobals mg) (cx : SaysX hfa hfn hxs hfile hvs K) : ∃ E : En PySem.Challenge.pw_formspaces_k80_whole_main_squares_summed K mg, E.a_law = He.ga K "law" := by
  have c := cx.1
  obtain ⟨f0, F0⟩ := c.def_ 0 (d := dd_power) rfl
  obtain ⟨f1, F1⟩ := c.def_ 1 (d := dd_power_left) rfl
  obtain ⟨f2, F2⟩ := c.def_ 2 (d := dd_square_sign) rfl
  obtain ⟨f3, F3⟩ := c.def_ 3 (d := dd_squares_kind) rfl
  obtain ⟨f4, F4⟩ := c.def_ 4 (d := dd_squares_ways) rfl
  obtain ⟨f5, F5⟩ := c.def_ 5 (d := dd_squares_rows) rfl
  obtain ⟨f6, F6⟩ := c.def_ 6 (d := dd_least_squares) rfl
  obtain ⟨f7, F7⟩ := c.def_ 7 (d := dd_least_nought_squares) rfl
  obtain ⟨f8, F8⟩ := c.def_ 8 (d := dd__law_pot) rfl
  obtain ⟨f9, F9⟩ := c.def_ 9 (d := dd__law_draw) rfl
  obtain ⟨f10, F10⟩ := c.def_ 10 (d := dd__law_pick) rfl
  obtain ⟨f11, F11⟩ := c.def_ 11 (d := dd__law_all_rows) rfl
  obtain ⟨f12, F12⟩ := c.def_ 12 (d := dd__law_power) rfl
  obtain ⟨f13, F13⟩ := c.def_ 13 (d := dd__law_told) rfl
  obtain ⟨f14, F14⟩ := c.def_ 14 (d := dd__law_summed) rfl
  obtain ⟨f15, F15⟩ := c.def_ 15 (d := dd__law_sign) rfl
  obtain ⟨f16, F16⟩ := c.def_ 16 (d := dd__law_remainder) rfl
  obtain ⟨f17, F17⟩ := c.def_ 17 (d := dd__law_ways) rfl
  obtain ⟨f18, F18⟩ := c.def_ 18 (d := dd__law_is_asked) rfl
  obtain ⟨f19, F19⟩ := c.def_ 19 (d := dd_law) rfl
  obtain ⟨x0, X0⟩ := supW_ok (P := PySem.Challenge.pw_formspaces_k80_whole_main_squares_summed) (x := "TooMany") (f := "limit") (p := "limit") (cx.sup 0) rfl rfl (by decide) rfl rfl rfl rfl (by decide +kernel) rfl rfl rfl (by decide) (by decide +kernel) (fun _ _ _ _ _ _ _ _ => rfl) (fun _ _ _ _ _ _ _ _ => rfl) (fun _ _ _ _ _ _ us hl => match us, hl with | [_, _], _ => rfl)
  exact ⟨{ a_power := He.ga K "power", f_power := f0, d_power := F0, m_power := He.glo_ok X G (c.fact 0 (f := .glo "power") rfl), k_power := F0.kp, a_power_left := He.ga K "power_left", f_power_left := f1, d_power_left := F1, m_power_left := He.glo_ok X G (c.fact 1 (f := .glo "power_left") rfl), k_power_left := F1.kp, a_square_sign := He.ga K "square_sign", f_square_sign := f2, d_square_sign := F2, m_square_sign := He.glo_ok X G (c.fact 2 (f := .glo "square_sign") rfl), k_square_sign := F2.kp, a_squares_kind := He.ga K "squares_kind", f_squares_kind := f3, d_squares_kind := F3, m_squares_kind := He.glo_ok X G (c.fact 3 (f := .glo "squares_kind") rfl), k_squares_kind := F3.kp, a_squares_ways := He.ga K "squares_ways", f_squares_ways := f4, d_squares_ways := F4, m_squares_ways := He.glo_ok X G (c.fact 4 (f := .glo "squares_ways") rfl), k_squares_ways := F4.kp, a_squares_rows := He.ga K "squares_rows", f_squares_rows := f5, d_squares_rows := F5, m_squares_rows := He.glo_ok X G (c.fact 5 (f := .glo "squares_rows") rfl), k_squares_rows := F5.kp, a_least_squares := He.ga K "least_squares", f_least_squares := f6, d_least_squares := F6, m_least_squares := He.glo_ok X G (c.fact 6 (f := .glo "least_squares") rfl), k_least_squares := F6.kp, a_least_nought_squares := He.ga K "least_nought_squares", f_least_nought_squares := f7, d_least_nought_squares := F7, m_least_nought_squares := He.glo_ok X G (c.fact 7 (f := .glo "least_nought_squares") rfl), k_least_nought_squares := F7.kp, a__law_pot := He.ga K "_law_pot", f__law_pot := f8, d__law_pot := F8, m__law_pot := He.glo_ok X G (c.fact 8 (f := .glo "_law_pot") rfl), k__law_pot := F8.kp, a__law_draw := He.ga K "_law_draw", f__law_draw := f9, d__law_draw := F9, m__law_draw := He.glo_ok X G (c.fact 9 (f := .glo "_law_draw") rfl), k__law_draw := F9.kp, a__law_pick := He.ga K "_law_pick", f__law_pick := f10, d__law_pick := F10, m__law_pick := He.glo_ok X G (c.fact 10 (f := .glo "_law_pick") rfl), k__law_pick := F10.kp, a__law_all_rows := He.ga K "_law_all_rows", f__law_all_rows := f11, d__law_all_rows := F11, m__law_all_rows := He.glo_ok X G (c.fact 11 (f := .glo "_law_all_rows") rfl), k__law_all_rows := F11.kp, a__law_power := He.ga K "_law_power", f__law_power := f12, d__law_power := F12, m__law_power := He.glo_ok X G (c.fact 12 (f := .glo "_law_power") rfl), k__law_power := F12.kp, a__law_told := He.ga K "_law_told", f__law_told := f13, d__law_told := F13, m__law_told := He.glo_ok X G (c.fact 13 (f := .glo "_law_told") rfl), k__law_told := F13.kp, a__law_summed := He.ga K "_law_summed", f__law_summed := f14, d__law_summed := F14, m__law_summed := He.glo_ok X G (c.fact 14 (f := .glo "_law_summed") rfl), k__law_summed := F14.kp, a__law_sign := He.ga K "_law_sign", f__law_sign := f15, d__law_sign := F15, m__law_sign := He.glo_ok X G (c.fact 15 (f := .glo "_law_sign") rfl), k__law_sign := F15.kp, a__law_remainder := He.ga K "_law_remainder", f__law_remainder := f16, d__law_remainder := F16, m__law_remainder := He.glo_ok X G (c.fact 16 (f := .glo "_law_remainder") rfl), k__law_remainder := F16.kp, a__law_ways := He.ga K "_law_ways", f__law_ways := f17, d__law_ways := F17, m__law_ways := He.glo_ok X G (c.fact 17 (f := .glo "_law_ways") rfl), k__law_ways := F17.kp, a__law_is_asked := He.ga K "_law_is_asked", f__law_is_asked := f18, d__law_is_asked := F18, m__law_is_asked := He.glo_ok X G (c.fact 18 (f := .glo "_law_is_asked") rfl), k__law_is_asked := F18.kp, a_law := He.ga K "law", f_law := f19, d_law := F19, m_law := He.glo_ok X G (c.fact 19 (f := .glo "law") rfl), k_law := F19.kp, n_ValueError := He.free_ok X G (c.fact 20 (f := .free "ValueError") rfl), n_abs := He.free_ok X G (c.fact 21 (f := .free "abs") rfl), n_enumerate := He.free_ok X G (c.fact 22 (f := .free "enumerate") rfl), n_int := He.free_ok X G (c.fact 23 (f := .free "int") rfl), n_isinstance := He.free_ok X G (c.fact 24 (f := .free "isinstance") rfl), n_len := He.free_ok X G (c.fact 25 (f := .free "len") rfl), n_range := He.free_ok X G (c.fact 26 (f := .free "range") rfl), n_repr := He.free_ok X G (c.fact 27 (f := .free "repr") rfl), n_sum := He.free_ok X G (c.fact 28 (f := .free "sum") rfl), n_super := He.free_ok X G (c.fact 29 (f := .free "super") rfl), n_tuple := He.free_ok X G (c.fact 30 (f := .free "tuple") rfl), g_MAX_ROWS := He.int_ok X G (c.fact 31 (f := .int "MAX_ROWS" 3000) rfl), c_SpaceError := He.ga K "SpaceError", mc_SpaceError := He.glo_ok X G (c.fact 32 (f := .glo "SpaceError") rfl), c_TooMany := He.ga K "TooMany", mc_TooMany := He.glo_ok X G (c.fact 33 (f := .glo "TooMany") rfl), ci_TooMany := He.ma K (He.ga K "TooMany") "__init__", cf_TooMany := x0, cs_TooMany := X0, kt_TooMany_SpaceError := exm_fact (c.fact 34 (f := .exm "TooMany" "SpaceError" true) rfl) }, rfl⟩
theorem ba_law {K : PySem.W.Frag} {mg : Str → Option Value} {P : Program} (E : En P K mg) (z : Shared) (u : Value) : BindsTo z E.f_law ⟨[u], []⟩ [("script", u)] := L2.FunD.bindsA (ps := ["script"]) E.d_law (fun _ _ _ _ _ _ us hl => match us, hl with | [_], _ => rfl) z [u] rfl
end K80
open PySem PySem.W PySem.Calls PyProof.Rows
theorem PySem.Challenge.cw_formspaces_k80_whole_main_squares_summed_holds : PySem.Challenge.rw_formspaces_k80_whole_main_squares_summed.Holds := by
  w_on; o_law
  refine HandSHeadRun.head_any (r := OpenLaw.row PySem.Challenge.rw_formspaces_k80_whole_main_squares_summed) (q := view (OpenLaw.row PySem.Challenge.rw_formspaces_k80_whole_main_squares_summed).prog [25]) (H := K80.hk) (ob := K80.hob) (M := 4000) (loose := K80.loose) (d := HandSHeadRun.topDef (OpenLaw.row PySem.Challenge.rw_formspaces_k80_whole_main_squares_summed).prog 25) (kwd := []) K80.hob_eq
    (by kernel_rfl) (fun s => by kernel_rfl) K80.hrun (by kernel_rfl) (by kernel_rfl) (by kernel_rfl) (by rfl) (by first | assumption | decide +kernel) (by decide +kernel) ⟨rfl, rfl, rfl, rfl, rfl, by decide +kernel⟩ ?hw ?hc
  case hw => w_witness2
  case hc =>
    refine Fe.walk_ofG (l := PySem.Challenge.rw_formspaces_k80_whole_main_squares_summed) (n := 63) (k := 6) (x := "script") (Fm := K80.F_law) rfl (by decide) (by kernel_rfl) ⟨rfl, by decide, by decide⟩ ?F K80.plain
    intro w mg fa h Y G hmg0
    obtain ⟨K, KX, c⟩ := Y
    obtain ⟨E, hE⟩ := K80.mkEn KX G c
    have hmg : mg ("law" : PySem.Str) = some (.ref fa) := by
      have e : (HandSHeadRun.topDef (OpenLaw.row PySem.Challenge.rw_formspaces_k80_whole_main_squares_summed).prog 25).name = ("law" : PySem.Str) := by kernel_rfl
      rw [← e]
      exact hmg0
    have ea : E.a_law = fa := Fe.refEq E.m_law hmg
    subst ea
    exact ⟨K, E.f_law, KX, K80.ba_law E, fun base _ _ => K80.ok_law E⟩
