import PyProof.Rows.All
import Wide.All
import OpenK.AllK
import Wide.FinOn
import HandS.ForMost
import HandS.ForExc
import HandS.CallSlots
import HandS.TupLe
import HandS.Deep
import HandS.SortInts
import HandS.SortRule
import HandS.IsInst
import HandS.TryOnly
import HandS.ExcOwn
import HandS.ExcInit
import HandS.ExcField
import HandS.ExcIs
import HandS.Small
import PyProof.Rows.SortShellAny
import HandS.More
import HandS.Words
import HandS.WordsExc
import HandS.Ends
import PySem.Challenge.RW_oathledger_k46_accounts_step_by_step
set_option Elab.async false
set_option linter.all false
set_option maxRecDepth 100000
set_option maxHeartbeats 2000000
set_option autoImplicit false
/-! Mi: a shallow functional reading of a Python text: values with pure tuples, a store of mutable objects -/
namespace Mi
open PySem PySem.Spec L2 PyProof.Rows

inductive D where
  | non | bl (b : Bool) | int (i : Int) | str (x : Str)
  | tup (xs : List D) | frl (xs : List D) | ref (n : Nat)
inductive O where
  | lst (xs : List D) | dct (kvs : List (Key × D)) | lkd (kvs : List (Key × D)) | ins (c : Nat) (fs : List (Option D))
abbrev Sto := List O
abbrev En := List (Option D)
/-- an exception: its class, what its own dict holds -/
structure Xc where
  c : Nat
  fs : List (Option D)
inductive Ou (α : Type) where
  | ok (a : α) (S : Sto) | ex (x : Xc) (S : Sto) | bad
abbrev Fx (α : Type) := En → Sto → Ou α
def Ou.bind {α β : Type} (o : Ou α) (k : α → Sto → Ou β) : Ou β := match o with
  | .ok a S => k a S
  | .ex x S => .ex x S
  | .bad => .bad
@[simp] theorem Ou.bind_ok {α β : Type} (a : α) (S : Sto) (k : α → Sto → Ou β) : (Ou.ok a S).bind k = k a S := rfl
@[simp] theorem Ou.bind_ex {α β : Type} (x : Xc) (S : Sto) (k : α → Sto → Ou β) : (Ou.ex x S : Ou α).bind k = .ex x S := rfl
@[simp] theorem Ou.bind_bad {α β : Type} (k : α → Sto → Ou β) : (Ou.bad : Ou α).bind k = .bad := rfl

/-- an exception in a slot -/
structure Zx where
  i : Nat
  a : Addr
  x : Xc
  cls : Value
  dd : Option Addr
/-- the classes: address and attributes; in the suite of a named clause: the exception -/
structure Ly where
  ct : Nat → Addr
  fn : Nat → List Str
  zs : Option Zx := none

/-! ### values related -/
section
variable (K : PySem.W.Frag)
def Frl (H : Hp) (a : Addr) (xs : List V) : Prop := (∃ o, H a = some (.frz o (.lst xs))) ∨
    ∃ (o : Obj) (its : Array Value) (n : Nat), K.lookup a = some o ∧ o.cls = .type "list" ∧ o.dict = none ∧ o.data = .seq its n ∧ its.size ≤ sizeLine ∧ Vals xs its.toList
theorem Frl.seq {K : PySem.W.Frag} {H : Hp} {a : Addr} {xs : List V} (h : Frl K H a xs) : SqL K H a xs := by
  rcases h with ⟨o, h⟩ | h
  · exact .inl (.inr ⟨o, h⟩)
  · exact .inr h
mutual
inductive RV (H : Hp) (ρ : List Addr) : D → V → Prop
  | non : RV H ρ .non .non
  | bl (b : Bool) : RV H ρ (.bl b) (.bl b)
  | int (i : Int) : RV H ρ (.int i) (.int i)
  | str (x : Str) : RV H ρ (.str x) (.str x)
  | tup {ds : List D} {a : Addr} {xs : List V} : SqT K H a xs → RVs H ρ ds xs → RV H ρ (.tup ds) (.ref a)
  | frl {ds : List D} {a : Addr} {xs : List V} : Frl K H a xs → RVs H ρ ds xs → RV H ρ (.frl ds) (.ref a)
  | ref {n : Nat} {a : Addr} : ρ[n]? = some a → RV H ρ (.ref n) (.ref a)
inductive RVs (H : Hp) (ρ : List Addr) : List D → List V → Prop
  | nil : RVs H ρ [] []
  | cons {d : D} {v : V} {ds : List D} {vs : List V} : RV H ρ d v → RVs H ρ ds vs → RVs H ρ (d :: ds) (v :: vs)
end
def RKVs (H : Hp) (ρ : List Addr) : List (Key × D) → List (Key × V) → Prop := Paired fun p q => p.1 = q.1 ∧ RV K H ρ p.2 q.2
def RF (H : Hp) (ρ : List Addr) : Option D → Option V → Prop
  | some d, some v => RV K H ρ d v
  | none, none => True
  | _, _ => False
structure RFs (H : Hp) (ρ : List Addr) (ns : List Str) (fs : List (Option D)) (fx : List (Str × V)) : Prop where
  at_ : ∀ (i : Nat) (f : Str), ns[i]? = some f → RF K H ρ (fs[i]?.join) (fx.lookup f)
  len : fs.length = ns.length
  nd : ns.Nodup
  ndx : (fx.map (·.1)).Nodup
  sub : ∀ m ∈ fx.map (·.1), m ∈ ns
  few : ns.length ≤ 64
def RO (L : Ly) (H : Hp) (ρ : List Addr) (a : Addr) : O → Prop
  | .lst ds => ∃ xs, H a = some (.lst xs) ∧ RVs K H ρ ds xs
  | .dct kvs => ∃ kxs, H a = some (.dK kxs) ∧ RKVs K H ρ kvs kxs
  | .lkd kvs => ∃ o kxs, H a = some (.frz o (.dK kxs)) ∧ RKVs K H ρ kvs kxs
  | .ins c fs => ∃ dx fx, H a = some (.ins (L.ct c) dx fx) ∧ RFs K H ρ (L.fn c) fs fx
structure RSt (L : Ly) (ρ : List Addr) (S : Sto) (H : Hp) : Prop where
  len : ρ.length = S.length
  nd : ρ.Nodup
  ob : ∀ (n : Nat) (o : O) (a : Addr), S[n]? = some o → ρ[n]? = some a → RO K L H ρ a o
/-- an exception's class and dict -/
def RX (L : Ly) (H : Hp) (ρ : List Addr) (x : Xc) (cls : Value) (dd : Option Addr) : Prop :=
  cls = .ref (L.ct x.c) ∧ ((x.fs = [] ∧ dd = none) ∨ ∃ d fx, dd = some d ∧ H d = some (.xd fx) ∧ RFs K H ρ (L.fn x.c) x.fs fx)
structure REn (L : Ly) (H : Hp) (ρ : List Addr) (env : En) (σ : L2.St) : Prop where
  len : env.length = σ.length
  at_ : ∀ (i : Nat) (d : D), env[i]? = some (some d) → ∃ v, σ[i]? = some (some v) ∧ RV K H ρ d v
  zz : ∀ z, L.zs = some z → env[z.i]? = some none → σ[z.i]? = some (some (.ref z.a)) ∧ RX K L H ρ z.x z.cls z.dd
end
structure HExt (H H' : Hp) : Prop where
  tup : ∀ b xs, H b = some (.tup xs) → H' b = some (.tup xs)
  fzl : ∀ b o xs, H b = some (.frz o (.lst xs)) → H' b = some (.frz o (.lst xs))
  fzt : ∀ b o xs, H b = some (.frz o (.tup xs)) → H' b = some (.frz o (.tup xs))
  xd : ∀ b fs, H b = some (.xd fs) → H' b = some (.xd fs)
  fzd : ∀ b o kvs, H b = some (.frz o (.dK kvs)) → H' b = some (.frz o (.dK kvs))
theorem HExt.refl (H : Hp) : HExt H H := ⟨fun _ _ h => h, fun _ _ _ h => h, fun _ _ _ h => h, fun _ _ h => h, fun _ _ _ h => h⟩
theorem HExt.trans {H H1 H2 : Hp} (a : HExt H H1) (b : HExt H1 H2) : HExt H H2 :=
  ⟨fun c xs h => b.tup c xs (a.tup c xs h), fun c o xs h => b.fzl c o xs (a.fzl c o xs h), fun c o xs h => b.fzt c o xs (a.fzt c o xs h), fun c xs h => b.xd c xs (a.xd c xs h), fun c o xs h => b.fzd c o xs (a.fzd c o xs h)⟩
structure Ext (ρ : List Addr) (H : Hp) (ρ' : List Addr) (H' : Hp) : Prop where
  pre : ρ <+: ρ'
  hx : HExt H H'
theorem Ext.refl (ρ : List Addr) (H : Hp) : Ext ρ H ρ H := ⟨List.prefix_refl _, .refl _⟩
theorem Ext.trans {ρ ρ1 ρ2 : List Addr} {H H1 H2 : Hp} (a : Ext ρ H ρ1 H1) (b : Ext ρ1 H1 ρ2 H2) : Ext ρ H ρ2 H2 := ⟨a.pre.trans b.pre, a.hx.trans b.hx⟩
theorem Ext.new {ρ : List Addr} {H : Hp} {p : Addr} {o : HO} (h : H p = none) (more : List Addr) : Ext ρ H (ρ ++ more) (upd H p o) :=
  ⟨List.prefix_append _ _, fun b xs e => by rw [upd_ne (ne_of_none e h)]; exact e, fun b u xs e => by rw [upd_ne (ne_of_none e h)]; exact e, fun b u xs e => by rw [upd_ne (ne_of_none e h)]; exact e, fun b xs e => by rw [upd_ne (ne_of_none e h)]; exact e, fun b u xs e => by rw [upd_ne (ne_of_none e h)]; exact e⟩
theorem Ext.new0 {ρ : List Addr} {H : Hp} {p : Addr} {o : HO} (h : H p = none) : Ext ρ H ρ (upd H p o) := by
  have := Ext.new (ρ := ρ) (o := o) h []
  rw [List.append_nil] at this
  exact this
/-- what is no tuple and no frozen list or tuple may change -/
def Chg : HO → Prop
  | .tup _ => False
  | .frz _ (.lst _) => False
  | .frz _ (.tup _) => False
  | .frz _ (.dK _) => False
  | .xd _ => False
  | _ => True
theorem Ext.chg {ρ : List Addr} {H : Hp} {p : Addr} {o u : HO} (h : H p = some u) (c : Chg u) : Ext ρ H ρ (upd H p o) := by
  refine ⟨List.prefix_refl _, fun b xs e => ?_, fun b w xs e => ?_, fun b w xs e => ?_, fun b xs e => ?_, fun b w xs e => ?_⟩
  all_goals
    rw [upd_ne]
    · exact e
    · rintro rfl
      rw [h] at e
      cases e
      exact c

section
variable {K : PySem.W.Frag} {L : Ly} {H H' : Hp} {ρ ρ' : List Addr}
theorem SqT.ext {a : Addr} {xs : List V} (e : HExt H H') (h : SqT K H a xs) : SqT K H' a xs := by
  rcases h with (h | ⟨o, h⟩) | h
  · exact .inl (.inl (e.tup _ _ h))
  · exact .inl (.inr ⟨o, e.fzt _ _ _ h⟩)
  · exact .inr h
theorem Frl.ext {a : Addr} {xs : List V} (e : HExt H H') (h : Frl K H a xs) : Frl K H' a xs := by
  rcases h with ⟨o, h⟩ | h
  · exact .inl ⟨o, e.fzl _ _ _ h⟩
  · exact .inr h
theorem pre_get {ρ ρ' : List Addr} (p : ρ <+: ρ') {n : Nat} {a : Addr} (h : ρ[n]? = some a) : ρ'[n]? = some a := by
  obtain ⟨t, rfl⟩ := p
  rw [List.getElem?_append_left (List.getElem?_eq_some_iff.mp h).1]
  exact h
mutual
theorem RV.ext {d : D} {v : V} (e : Ext ρ H ρ' H') (h : RV K H ρ d v) : RV K H' ρ' d v := match h with
  | .non => .non
  | .bl b => .bl b
  | .int i => .int i
  | .str x => .str x
  | .tup h1 h2 => .tup (SqT.ext e.hx h1) (RVs.ext e h2)
  | .frl h1 h2 => .frl (Frl.ext e.hx h1) (RVs.ext e h2)
  | .ref h1 => .ref (pre_get e.pre h1)
theorem RVs.ext {ds : List D} {vs : List V} (e : Ext ρ H ρ' H') (h : RVs K H ρ ds vs) : RVs K H' ρ' ds vs := match h with
  | .nil => .nil
  | .cons h1 h2 => .cons (RV.ext e h1) (RVs.ext e h2)
end
theorem RKVs.ext {kvs : List (Key × D)} {kxs : List (Key × V)} (e : Ext ρ H ρ' H') (h : RKVs K H ρ kvs kxs) : RKVs K H' ρ' kvs kxs :=
  Paired.mapP h fun _ _ z => ⟨z.1, z.2.ext e⟩
theorem RF.ext {a : Option D} {b : Option V} (e : Ext ρ H ρ' H') (h : RF K H ρ a b) : RF K H' ρ' a b := by
  cases a <;> cases b <;> first | exact h | exact RV.ext e h
theorem RFs.ext {ns : List Str} {fs : List (Option D)} {fx : List (Str × V)} (e : Ext ρ H ρ' H') (h : RFs K H ρ ns fs fx) : RFs K H' ρ' ns fs fx :=
  ⟨fun i f z => (h.at_ i f z).ext e, h.len, h.nd, h.ndx, h.sub, h.few⟩
theorem REn.ext {env : En} {σ : L2.St} (e : Ext ρ H ρ' H') (h : REn K L H ρ env σ) : REn K L H' ρ' env σ :=
  ⟨h.len, fun i d z => let ⟨v, h1, h2⟩ := h.at_ i d z; ⟨v, h1, h2.ext e⟩, fun z hz hn => let ⟨h1, h2⟩ := h.zz z hz hn; ⟨h1, h2.1, h2.2.imp id fun ⟨d, fx, a, b, c⟩ => ⟨d, fx, a, e.hx.xd d fx b, c.ext e⟩⟩⟩
/-- an object stays where H' says the same at its place -/
theorem RO.ext {a : Addr} {o : O} (e : Ext ρ H ρ' H') (ha : H' a = H a) (h : RO K L H ρ a o) : RO K L H' ρ' a o := by
  cases o with
  | lst ds => obtain ⟨xs, h1, h2⟩ := h; exact ⟨xs, ha.trans h1, h2.ext e⟩
  | dct kvs => obtain ⟨xs, h1, h2⟩ := h; exact ⟨xs, ha.trans h1, h2.ext e⟩
  | lkd kvs => obtain ⟨o, xs, h1, h2⟩ := h; exact ⟨o, xs, ha.trans h1, h2.ext e⟩
  | ins c fs => obtain ⟨dx, fx, h1, h2⟩ := h; exact ⟨dx, fx, ha.trans h1, h2.ext e⟩
theorem RO.some {a : Addr} {o : O} (h : RO K L H ρ a o) : ∃ u, H a = some u := by
  cases o with
  | lst ds => obtain ⟨xs, h1, h2⟩ := h; exact ⟨_, h1⟩
  | dct kvs => obtain ⟨xs, h1, h2⟩ := h; exact ⟨_, h1⟩
  | lkd kvs => obtain ⟨o, xs, h1, h2⟩ := h; exact ⟨_, h1⟩
  | ins c fs => obtain ⟨dx, fx, h1, h2⟩ := h; exact ⟨_, h1⟩
theorem RSt.at {S : Sto} (r : RSt K L ρ S H) {n : Nat} {a : Addr} (h : ρ[n]? = Option.some a) : ∃ o, S[n]? = Option.some o ∧ RO K L H ρ a o := by
  have hn : n < S.length := by rw [← r.len]; exact (List.getElem?_eq_some_iff.mp h).1
  exact ⟨S[n], List.getElem?_eq_getElem hn, r.ob n _ a (List.getElem?_eq_getElem hn) h⟩
theorem RSt.adr {S : Sto} (r : RSt K L ρ S H) {n : Nat} {o : O} (h : S[n]? = Option.some o) : ∃ a, ρ[n]? = Option.some a ∧ RO K L H ρ a o := by
  have hn : n < ρ.length := by rw [r.len]; exact (List.getElem?_eq_some_iff.mp h).1
  exact ⟨ρ[n], List.getElem?_eq_getElem hn, r.ob n o _ h (List.getElem?_eq_getElem hn)⟩
theorem RSt.ne_new {S : Sto} (r : RSt K L ρ S H) {n : Nat} {a p : Addr} (h : ρ[n]? = Option.some a) (hp : H p = none) : a ≠ p := by
  obtain ⟨o, _, ho⟩ := r.at h
  obtain ⟨u, hu⟩ := ho.some
  exact ne_of_none hu hp
/-- an untracked, new place that the store does not name is laid -/
theorem RSt.keep {S : Sto} (r : RSt K L ρ S H) {p : Addr} {o : HO} (hp : H p = none) : RSt K L ρ S (upd H p o) :=
  ⟨r.len, r.nd, fun n u a h1 h2 => (r.ob n u a h1 h2).ext (.new0 hp) (upd_ne (r.ne_new h2 hp))⟩
theorem RSt.new {S : Sto} (r : RSt K L ρ S H) {p : Addr} {o : HO} {u : O} (hp : H p = none) (hu : RO K L (upd H p o) (ρ ++ [p]) p u) : RSt K L (ρ ++ [p]) (S ++ [u]) (upd H p o) := by
  refine ⟨by simp [r.len], ?_, fun n w a h1 h2 => ?_⟩
  · rw [List.nodup_append]
    refine ⟨r.nd, by simp, fun a ha b hb => ?_⟩
    obtain ⟨n, hn⟩ := List.getElem?_of_mem ha
    have hb' : b = p := by simpa using hb
    subst hb'
    exact r.ne_new hn hp
  · by_cases hn : n < ρ.length
    · rw [List.getElem?_append_left (by rw [← r.len]; exact hn)] at h1
      rw [List.getElem?_append_left hn] at h2
      exact (r.ob n w a h1 h2).ext (.new hp _) (upd_ne (r.ne_new h2 hp))
    · have hl : n = ρ.length := by
        have := (List.getElem?_eq_some_iff.mp h2).1
        simp at this
        omega
      subst hl
      rw [List.getElem?_append_right (Nat.le_refl _)] at h2
      rw [r.len, List.getElem?_append_right (Nat.le_refl _)] at h1
      simp at h1 h2
      subst h1 h2
      exact hu
/-- the object n is changed -/
theorem RSt.set {S : Sto} (r : RSt K L ρ S H) {n : Nat} {a : Addr} {o : HO} {u : O} (ha : ρ[n]? = Option.some a) (hu : RO K L (upd H a o) ρ a u) (hch : ∃ u0, H a = Option.some u0 ∧ Chg u0 := by refine ⟨_, by assumption, ?_⟩; exact True.intro) : RSt K L ρ (S.set n u) (upd H a o) := by
  obtain ⟨o0, h0, ho0⟩ := r.at ha
  obtain ⟨u0, hu0, hc⟩ := hch
  refine ⟨by simp [r.len], r.nd, fun m w b h1 h2 => ?_⟩
  by_cases hm : n = m
  · subst hm
    rw [ha] at h2
    cases h2
    rw [List.getElem?_set_self (List.getElem?_eq_some_iff.mp h0).1] at h1
    cases h1
    exact hu
  · rw [List.getElem?_set_ne hm] at h1
    refine (r.ob m w b h1 h2).ext (.chg hu0 hc) (upd_ne ?_)
    rintro rfl
    obtain ⟨l1, e1⟩ := List.getElem?_eq_some_iff.mp ha
    obtain ⟨l2, e2⟩ := List.getElem?_eq_some_iff.mp h2
    exact hm ((List.getElem_inj r.nd).mp (e1.trans e2.symm))
theorem RVs.length {ds : List D} {vs : List V} (h : RVs K H ρ ds vs) : ds.length = vs.length := by
  induction ds generalizing vs with
  | nil => cases h; rfl
  | cons d ds ih => cases h with
    | cons h1 h2 => simp [ih h2]
theorem RVs.get {ds : List D} {vs : List V} (h : RVs K H ρ ds vs) {i : Nat} {d : D} (e : ds[i]? = some d) : ∃ v, vs[i]? = some v ∧ RV K H ρ d v := by
  induction ds generalizing vs i with
  | nil => simp at e
  | cons d0 ds ih =>
    cases h with
    | cons h1 h2 =>
      cases i with
      | zero => simp at e; subst e; exact ⟨_, rfl, h1⟩
      | succ i => simpa using ih h2 (by simpa using e)
theorem RVs.getv {ds : List D} {vs : List V} (h : RVs K H ρ ds vs) {i : Nat} {v : V} (e : vs[i]? = some v) : ∃ d, ds[i]? = some d ∧ RV K H ρ d v := by
  induction ds generalizing vs i with
  | nil => cases h; simp at e
  | cons d0 ds ih =>
    cases h with
    | cons h1 h2 =>
      cases i with
      | zero => simp at e; subst e; exact ⟨_, rfl, h1⟩
      | succ i => simpa using ih h2 (by simpa using e)
theorem RVs.append {ds ds' : List D} {vs vs' : List V} (h : RVs K H ρ ds vs) (h' : RVs K H ρ ds' vs') : RVs K H ρ (ds ++ ds') (vs ++ vs') := by
  induction ds generalizing vs with
  | nil => cases h; exact h'
  | cons d ds ih => cases h with
    | cons h1 h2 => exact .cons h1 (ih h2)
theorem RVs.take {ds : List D} {vs : List V} (h : RVs K H ρ ds vs) (n : Nat) : RVs K H ρ (ds.take n) (vs.take n) := by
  induction ds generalizing vs n with
  | nil => cases h; simp; exact .nil
  | cons d ds ih => cases h with
    | cons h1 h2 => cases n with
      | zero => simp; exact .nil
      | succ n => simpa using .cons h1 (ih h2 n)
theorem RVs.drop {ds : List D} {vs : List V} (h : RVs K H ρ ds vs) (n : Nat) : RVs K H ρ (ds.drop n) (vs.drop n) := by
  induction ds generalizing vs n with
  | nil => cases h; simp; exact .nil
  | cons d ds ih => cases h with
    | cons h1 h2 => cases n with
      | zero => simpa using .cons h1 h2
      | succ n => simpa using ih h2 n
theorem RVs.set {ds : List D} {vs : List V} (h : RVs K H ρ ds vs) (n : Nat) {d : D} {v : V} (r : RV K H ρ d v) : RVs K H ρ (ds.set n d) (vs.set n v) := by
  induction ds generalizing vs n with
  | nil => cases h; simp; exact .nil
  | cons d ds ih => cases h with
    | cons h1 h2 => cases n with
      | zero => simpa using .cons r h2
      | succ n => simpa using .cons h1 (ih h2 n)
theorem RVs.eraseIdx {ds : List D} {vs : List V} (h : RVs K H ρ ds vs) (n : Nat) : RVs K H ρ (ds.eraseIdx n) (vs.eraseIdx n) := by
  induction ds generalizing vs n with
  | nil => cases h; simp; exact .nil
  | cons d ds ih => cases h with
    | cons h1 h2 => cases n with
      | zero => simpa using h2
      | succ n => simpa using .cons h1 (ih h2 n)
theorem RVs.reverse {ds : List D} {vs : List V} (h : RVs K H ρ ds vs) : RVs K H ρ ds.reverse vs.reverse := by
  induction ds generalizing vs with
  | nil => cases h; exact .nil
  | cons d ds ih => cases h with
    | cons h1 h2 =>
      rw [List.reverse_cons, List.reverse_cons]
      exact (ih h2).append (.cons h1 .nil)
theorem RVs.ints (ns : List Int) : RVs K H ρ (ns.map D.int) (ns.map V.int) := by
  induction ns with
  | nil => exact .nil
  | cons n ns ih => exact .cons (.int n) ih
theorem REn.set {env : En} {σ : L2.St} (h : REn K L H ρ env σ) (i : Nat) {d : D} {v : V} (r : RV K H ρ d v) : REn K L H ρ (env.set i (some d)) (σ.set i (some v)) := by
  refine ⟨by simp [h.len], fun j e hj => ?_, fun z hz hn => ?_⟩
  · by_cases hi : i = j
    · subst hi
      have hl : i < env.length := by
        have := (List.getElem?_eq_some_iff.mp hj).1
        simpa using this
      rw [List.getElem?_set_self hl] at hj
      cases hj
      exact ⟨v, List.getElem?_set_self (by rw [← h.len]; exact hl), r⟩
    · rw [List.getElem?_set_ne hi] at hj ⊢
      exact h.at_ j e hj
  · by_cases hi : i = z.i
    · subst hi
      have hl : z.i < env.length := by
        have := (List.getElem?_eq_some_iff.mp hn).1
        simpa using this
      rw [List.getElem?_set_self hl] at hn
      cases hn
    · rw [List.getElem?_set_ne hi] at hn ⊢
      exact h.zz z hz hn
/-- fewer slots known -/
theorem REn.clear {env : En} {σ : L2.St} (hz : L.zs = none) (h : REn K L H ρ env σ) (i : Nat) : REn K L H ρ (env.set i none) (σ.set i none) := by
  refine ⟨by simp [h.len], fun j e hj => ?_, fun z e => by rw [hz] at e; cases e⟩
  by_cases hi : i = j
  · subst hi
    have hl : i < env.length := by
      have := (List.getElem?_eq_some_iff.mp hj).1
      simpa using this
    rw [List.getElem?_set_self hl] at hj
    cases hj
  · rw [List.getElem?_set_ne hi] at hj ⊢
    exact h.at_ j e hj
end

/-! ### readings -/
section
variable (K : PySem.W.Frag) (L : Ly)
/-- what is wanted of an outcome, from ρ H on -/
def Gd {α β : Type} (R : Hp → List Addr → α → β → Prop) (W : Value → Option Addr → Hp → Prop) (ρ : List Addr) (H : Hp) (o : Ou α) (Q : β → Hp → Prop) : Prop := match o with
  | .ok d S' => ∀ ρ' H' v, Ext ρ H ρ' H' → RSt K L ρ' S' H' → R H' ρ' d v → Q v H'
  | .ex x S' => ∀ ρ' H' c dd, Ext ρ H ρ' H' → RSt K L ρ' S' H' → RX K L H' ρ' x c dd → W c dd H'
  | .bad => False
abbrev WS (W : WX) (σ : L2.St) : Value → Option Addr → Hp → Prop := fun c d H => W c d σ H
def tG {α β : Type} (R : Hp → List Addr → α → β → Prop) (W : WX) (f : Fx α) (σ : L2.St) (H : Hp) (Q : β → Hp → Prop) : Prop :=
  ∃ ρ env S, RSt K L ρ S H ∧ REn K L H ρ env σ ∧ Gd K L R (WS W σ) ρ H (f env S) Q
def tE (W : WX) (f : Fx D) : TE := fun σ H Q => tG K L (fun H ρ => RV K H ρ) W f σ H Q
def tA (W : WX) (f : Fx (List D)) : TA := fun σ H Q => tG K L (fun H ρ => RVs K H ρ) W f σ H Q
def tT (W : WX) (f : Fx Bool) : TT := fun σ H Q => tG K L (fun _ _ (a b : Bool) => a = b) W f σ H Q
def RO_ (H : Hp) (ρ : List Addr) (a b : Option Int) : Prop := a = b
def tO (W : WX) (f : Fx (Option Int)) : TO := fun σ H Q => tG K L (fun H ρ => RO_ H ρ) W f σ H Q
end
section
variable {K : PySem.W.Frag} {L : Ly} {α β γ δ : Type} {R : Hp → List Addr → α → β → Prop} {R2 : Hp → List Addr → γ → δ → Prop} {Wh : Value → Option Addr → Hp → Prop} {ρ : List Addr} {H : Hp}
theorem Gd.mono {ρ1 : List Addr} {H1 : Hp} {o : Ou α} {Q : β → Hp → Prop} (e : Ext ρ H ρ1 H1) (h : Gd K L R Wh ρ H o Q) : Gd K L R Wh ρ1 H1 o Q := by
  cases o with
  | ok d S => exact fun ρ' H' v e' => h ρ' H' v (e.trans e')
  | ex x S => exact fun ρ' H' c d e' => h ρ' H' c d (e.trans e')
  | bad => exact h
/-- first, then -/
theorem Gd.bind {o : Ou α} {k : α → Sto → Ou γ} {Q : δ → Hp → Prop} (h : Gd K L R2 Wh ρ H (o.bind k) Q) :
    Gd K L R Wh ρ H o fun v H1 => ∃ ρ1 S1 x, Ext ρ H ρ1 H1 ∧ RSt K L ρ1 S1 H1 ∧ R H1 ρ1 x v ∧ Gd K L R2 Wh ρ1 H1 (k x S1) Q := by
  cases o with
  | ok d S => exact fun ρ' H' v e r rv => ⟨ρ', S, d, e, r, rv, h.mono e⟩
  | ex x S => exact h
  | bad => exact h
theorem Gd.imp {o : Ou α} {Q Q' : β → Hp → Prop} (h : Gd K L R Wh ρ H o Q) (i : ∀ v H', Q v H' → Q' v H') : Gd K L R Wh ρ H o Q' := by
  cases o with
  | ok d S => exact fun ρ' H' v e r rv => i _ _ (h ρ' H' v e r rv)
  | ex x S => exact h
  | bad => exact h
theorem Gd.ok {x : α} {S : Sto} {v : β} {Q : β → Hp → Prop} (h : Gd K L R Wh ρ H (.ok x S) Q) (r : RSt K L ρ S H) (rv : R H ρ x v) : Q v H := h ρ H v (.refl _ _) r rv
/-- a reading begun -/
theorem tG.bind {W : WX} {f : Fx α} {k : α → Fx γ} {σ : L2.St} {Q : δ → Hp → Prop} (h : tG K L R2 W (fun env S => (f env S).bind fun x S1 => k x env S1) σ H Q) :
    tG K L R W f σ H fun v H1 => ∃ ρ1 env S1 x, RSt K L ρ1 S1 H1 ∧ REn K L H1 ρ1 env σ ∧ R H1 ρ1 x v ∧ Gd K L R2 (WS W σ) ρ1 H1 (k x env S1) Q := by
  obtain ⟨ρ, env, S, rs, re, g⟩ := h
  exact ⟨ρ, env, S, rs, re, g.bind.imp fun v H' ⟨ρ1, S1, x, e, r, rv, g1⟩ => ⟨ρ1, env, S1, x, r, re.ext e, rv, g1⟩⟩
theorem tG.imp {W : WX} {f : Fx α} {σ : L2.St} {Q Q' : β → Hp → Prop} (h : tG K L R W f σ H Q) (i : ∀ v H', Q v H' → Q' v H') : tG K L R W f σ H Q' := by
  obtain ⟨ρ, env, S, rs, re, g⟩ := h
  exact ⟨ρ, env, S, rs, re, g.imp i⟩
end
def bnd {α γ : Type} (f : Fx α) (k : α → Fx γ) : Fx γ := fun env S => (f env S).bind fun x S1 => k x env S1

/-! ### judgements -/
abbrev ME (L : Ly) (X : Cx) (W : WX) (e : Expr) (f : Fx D) : Prop := PE X e (tE X.K L W f)
abbrev MT (L : Ly) (X : Cx) (W : WX) (e : Expr) (f : Fx Bool) : Prop := PT X e (tT X.K L W f)
abbrev MW (L : Ly) (X : Cx) (W : WX) (e : Expr) (f : Fx Bool) : Prop := PW X e (tT X.K L W f)
abbrev MA (L : Ly) (X : Cx) (W : WX) (es : List Expr) (f : Fx (List D)) : Prop := PA X es (tA X.K L W f)
theorem peI {X : Cx} {e : Expr} {t t' : TE} (h : PE X e t) (i : ∀ σ H Q, t' σ H Q → t σ H Q) : PE X e t' := ⟨fun pins s σ H Q I q => h.run pins s σ H Q I (i σ H Q q)⟩
theorem ptI {X : Cx} {e : Expr} {t t' : TT} (h : PT X e t) (i : ∀ σ H Q, t' σ H Q → t σ H Q) : PT X e t' := ⟨fun pins s σ H Q I q => h.run pins s σ H Q I (i σ H Q q)⟩
theorem pwI {X : Cx} {e : Expr} {t t' : TT} (h : PW X e t) (i : ∀ σ H Q, t' σ H Q → t σ H Q) : PW X e t' := ⟨fun wh pins s σ H Q I q => h.run wh pins s σ H Q I (i σ H Q q)⟩
theorem paI {X : Cx} {e : List Expr} {t t' : TA} (h : PA X e t) (i : ∀ σ H Q, t' σ H Q → t σ H Q) : PA X e t' := ⟨fun pos pins s σ H Q I q => h.run pos pins s σ H Q I (i σ H Q q)⟩
theorem psI {X : Cx} {e : Stmt} {t t' : TS} (h : PS X e t) (i : ∀ D σ H, t' D σ H → t D σ H) : PS X e t' := ⟨fun pins s σ H D I q => h.run pins s σ H D I (i D σ H q)⟩
theorem pssI {X : Cx} {e : List Stmt} {t t' : TS} (h : PSs X e t) (i : ∀ D σ H, t' D σ H → t D σ H) : PSs X e t' := ⟨fun pins s σ H D I q => h.run pins s σ H D I (i D σ H q)⟩
theorem piI {X : Cx} {tg e : Expr} {t t' : TI} (h : PI X tg e t) (i : ∀ σ H R, t' σ H R → t σ H R) : PI X tg e t' := ⟨fun pins s σ H R I q => h.run pins s σ H R I (i σ H R q)⟩
theorem poI {X : Cx} {e : Option Expr} {t t' : TO} (h : PO X e t) (i : ∀ σ H Q, t' σ H Q → t σ H Q) : PO X e t' := ⟨fun pins s σ H Q I q => h.run pins s σ H Q I (i σ H Q q)⟩
end Mi

set_option Elab.async false
set_option linter.all false
set_option maxRecDepth 100000
set_option maxHeartbeats 2000000
set_option autoImplicit false
/-! Mi2: expressions -/
namespace Mi
open PySem PySem.Spec L2 PyProof.Rows

/-! ### names, constants -/
def eV (i : Nat) : Fx D := fun env S => match env[i]? with
  | some (some d) => .ok d S
  | _ => .bad
def eC (d : D) : Fx D := fun _ S => .ok d S
section
variable {L : Ly} {X : Cx} {W : WX}
theorem me_v (i : Nat) {x : Str} {pos : Pos} (hN : X.N[i]? = some x := by rfl) (hv : Vis X.env.scope x := by first | exact Or.inl rfl | exact Or.inr (Or.inl rfl) | exact Or.inr (Or.inr rfl)) (hd : (x == ("__debug__" : Str)) = false := by decide)
    (hcd : (x == ("__classdict__" : Str)) = false := by decide) : ME L X W (.Name x pos) (eV i) :=
  peI (pe_var hN hv hd hcd) fun σ H Q h => by
    obtain ⟨ρ, env, S, rs, re, g⟩ := h
    unfold eV at g
    cases e : env[i]? with
    | none => rw [e] at g; exact g.elim
    | some o =>
      cases o with
      | none => rw [e] at g; exact g.elim
      | some d =>
        rw [e] at g
        obtain ⟨v, h1, h2⟩ := re.at_ i d e
        exact ⟨v, h1, g.ok rs h2⟩
theorem tC_of {d : D} {v : V} (r : ∀ H ρ, RV X.K H ρ d v) : ∀ σ H Q, tE X.K L W (eC d) σ H Q → tC v σ H Q := fun σ H Q ⟨ρ, env, S, rs, re, g⟩ => g.ok rs (r H ρ)
theorem me_int {i : Int} {j : Nat} {pos : Pos} : ME L X W (.Constant (.int i) j pos) (eC (.int i)) := peI pe_int (tC_of fun _ _ => .int i)
theorem me_bl {b : Bool} {j : Nat} {pos : Pos} : ME L X W (.Constant (.bool b) j pos) (eC (.bl b)) := peI pe_bl (tC_of fun _ _ => .bl b)
theorem me_non {j : Nat} {pos : Pos} : ME L X W (.Constant .none j pos) (eC .non) := peI pe_non (tC_of fun _ _ => .non)
theorem me_str {x : Str} {j : Nat} {pos : Pos} : ME L X W (.Constant (.str x) j pos) (eC (.str x)) := peI pe_str (tC_of fun _ _ => .str x)
end

/-! ### operators by values -/
section
variable (K : PySem.W.Frag) (L : Ly)
def rM1 (g : D → Sto → Ou D) : V → Hp → VK → Prop := fun x H Q => ∃ Wh ρ S dx, RSt K L ρ S H ∧ RV K H ρ dx x ∧ Gd K L (fun H ρ => RV K H ρ) Wh ρ H (g dx S) Q
def rM2 (g : D → D → Sto → Ou D) : R2 := fun x y H Q => ∃ Wh ρ S dx dy, RSt K L ρ S H ∧ RV K H ρ dx x ∧ RV K H ρ dy y ∧ Gd K L (fun H ρ => RV K H ρ) Wh ρ H (g dx dy S) Q
def rMs (g : List D → Sto → Ou D) : List V → Hp → VK → Prop := fun xs H Q => ∃ Wh ρ S ds, RSt K L ρ S H ∧ RVs K H ρ ds xs ∧ Gd K L (fun H ρ => RV K H ρ) Wh ρ H (g ds S) Q
def rMt (g : D → List D → Sto → Ou D) : V → List V → Hp → VK → Prop := fun x xs H Q => ∃ Wh ρ S d ds, RSt K L ρ S H ∧ RV K H ρ d x ∧ RVs K H ρ ds xs ∧ Gd K L (fun H ρ => RV K H ρ) Wh ρ H (g d ds S) Q
end
def op1 (g : D → Sto → Ou D) (fa : Fx D) : Fx D := bnd fa fun x => fun _ S => g x S
def op2 (g : D → D → Sto → Ou D) (fa fb : Fx D) : Fx D := bnd fa fun x => bnd fb fun y => fun _ S => g x y S
def opS (g : List D → Sto → Ou D) (fa : Fx (List D)) : Fx D := bnd fa fun xs => fun _ S => g xs S
def opT (g : D → List D → Sto → Ou D) (fo : Fx D) (fa : Fx (List D)) : Fx D := bnd fo fun x => bnd fa fun xs => fun _ S => g x xs S
/-- a value that is a bool -/
def tsB (f : Fx D) : Fx Bool := bnd f fun d => fun _ S => match d with
  | .bl b => .ok b S
  | _ => .bad
section
variable {K : PySem.W.Frag} {L : Ly} {W : WX} {σ : L2.St} {H : Hp}
theorem one {g : D → Sto → Ou D} {fa : Fx D} {Q : VK} (h : tE K L W (op1 g fa) σ H Q) : tE K L W fa σ H fun x H1 => rM1 K L g x H1 Q :=
  (tG.bind h).imp fun v H1 ⟨ρ1, env, S1, x, rs, re, rv, g1⟩ => ⟨_, ρ1, S1, x, rs, rv, g1⟩
theorem two {g : D → D → Sto → Ou D} {fa fb : Fx D} {Q : VK} (h : tE K L W (op2 g fa fb) σ H Q) : tE K L W fa σ H fun x H1 => tE K L W fb σ H1 fun y H2 => rM2 K L g x y H2 Q :=
  (tG.bind h).imp fun v H1 ⟨ρ1, env, S1, x, rs, re, rv, g1⟩ =>
    ⟨ρ1, env, S1, rs, re, (Gd.bind (R := fun H ρ => RV K H ρ) (o := fb env S1) g1).imp fun u H2 ⟨ρ2, S2, y, e, rs2, ry, g2⟩ => ⟨_, ρ2, S2, x, y, rs2, rv.ext e, ry, g2⟩⟩
theorem sev {g : List D → Sto → Ou D} {fa : Fx (List D)} {Q : VK} (h : tE K L W (opS g fa) σ H Q) : tA K L W fa σ H fun x H1 => rMs K L g x H1 Q :=
  (tG.bind h).imp fun v H1 ⟨ρ1, env, S1, x, rs, re, rv, g1⟩ => ⟨_, ρ1, S1, x, rs, rv, g1⟩
theorem mev {g : D → List D → Sto → Ou D} {fo : Fx D} {fa : Fx (List D)} {Q : VK} (h : tE K L W (opT g fo fa) σ H Q) : tE K L W fo σ H fun x H1 => tA K L W fa σ H1 fun xs H2 => rMt K L g x xs H2 Q :=
  (tG.bind h).imp fun v H1 ⟨ρ1, env, S1, x, rs, re, rv, g1⟩ =>
    ⟨ρ1, env, S1, rs, re, (Gd.bind (R := fun H ρ => RVs K H ρ) (o := fa env S1) g1).imp fun u H2 ⟨ρ2, S2, y, e, rs2, ry, g2⟩ => ⟨_, ρ2, S2, x, y, rs2, rv.ext e, ry, g2⟩⟩
/-- a bool's test -/
theorem tsb {f : Fx D} {Q : Bool → Hp → Prop} (h : tT K L W (tsB f) σ H Q) : tE K L W f σ H fun x H' => ∃ k, x = .bl k ∧ Q k H' :=
  (tG.bind h).imp fun v H1 ⟨ρ1, env, S1, x, rs, re, rv, g1⟩ => by
    cases x <;> first | exact g1.elim | skip
    cases rv
    exact ⟨_, rfl, g1.ok rs rfl⟩
end
theorem tsb' {K : PySem.W.Frag} {L : Ly} {W : WX} {σ : L2.St} {H : Hp} {f : Fx D} {Q : Bool → Hp → Prop} (h : tT K L W (tsB f) σ H Q) : tE K L W f σ H fun x H' => ∃ k, x = .bl k ∧ Q k H' := tsb h
section
variable {L : Ly} {X : Cx} {W : WX} {a b : Expr} {fa fb : Fx D} {g : D → D → Sto → Ou D} {pos : Pos}
abbrev OpM (L : Ly) (X : Cx) (f : Value → Value → Sem Value) (g : D → D → Sto → Ou D) : Prop := OpR X f (rM2 X.K L g)
theorem me_op {op : Operator} (ho : OpM L X (binaryOp op) g) (ha : ME L X W a fa) (hb : ME L X W b fb) : ME L X W (.BinOp a op b pos) (op2 g fa fb) :=
  peI (pe_op ho ha hb) fun _ _ _ h => two h
theorem me_cmp {op : CmpOp} (ho : OpM L X (compareOp op) g) (ha : ME L X W a fa) (hb : ME L X W b fb) (hm : behindInMarks op b = false) : ME L X W (.Compare a [op] [b] pos) (op2 g fa fb) :=
  peI (pe_cmpR ho ha hb hm) fun _ _ _ h => two h
theorem mt_cmp {op : CmpOp} (ho : OpM L X (compareOp op) g) (ha : ME L X W a fa) (hb : ME L X W b fb) (hm : behindInMarks op b = false) : MT L X W (.Compare a [op] [b] pos) (tsB (op2 g fa fb)) :=
  ptI (pt_cmpR ho ha hb hm) fun _ _ _ h => two (tsb' h)
end
end Mi

set_option Elab.async false
set_option linter.all false
set_option maxRecDepth 100000
set_option maxHeartbeats 2000000
set_option autoImplicit false
/-! Mi3: operators by values, displays, subscripts -/
namespace Mi
open PySem PySem.Spec L2 PyProof.Rows

section
variable {K : PySem.W.Frag} {L : Ly} {Wh : Value → Option Addr → Hp → Prop} {ρ : List Addr} {S : Sto} {H : Hp} {Q : VK}
theorem Gd.new {p : Addr} {o : HO} {u : O} (h : Gd K L (fun H ρ => RV K H ρ) Wh ρ H (.ok (.ref S.length) (S ++ [u])) Q) (rs : RSt K L ρ S H) (hp : H p = none) (hu : RO K L (upd H p o) (ρ ++ [p]) p u) : Q (.ref p) (upd H p o) :=
  h (ρ ++ [p]) _ _ (.new hp _) (rs.new hp hu) (.ref (by rw [← rs.len]; simp))
theorem Gd.put {a : Addr} {n : Nat} {o : HO} {u : O} {d : D} {v : V} (h : Gd K L (fun H ρ => RV K H ρ) Wh ρ H (.ok d (S.set n u)) Q) (rs : RSt K L ρ S H) (ha : ρ[n]? = some a) (hu : RO K L (upd H a o) ρ a u)
    (rv : RV K (upd H a o) ρ d v) (hch : ∃ u0, H a = some u0 ∧ Chg u0 := by refine ⟨_, by assumption, ?_⟩; exact True.intro) : Q v (upd H a o) := by
  obtain ⟨u0, hu0, hc⟩ := hch
  exact h ρ _ _ (.chg hu0 hc) (rs.set ha hu ⟨u0, hu0, hc⟩) rv
end

theorem Gd.ifp {α β : Type} {R : Hp → List Addr → α → β → Prop} {K : PySem.W.Frag} {L : Ly} {Wh : Value → Option Addr → Hp → Prop} {ρ : List Addr} {H : Hp} {Q : β → Hp → Prop} {c : Prop} [Decidable c] {o : Ou α}
    (g : Gd K L R Wh ρ H (if c then o else .bad) Q) : c ∧ Gd K L R Wh ρ H o Q := by
  by_cases h : c
  · rw [if_pos h] at g
    exact ⟨h, g⟩
  · rw [if_neg h] at g
    exact g.elim
/-- a list of the store -/
def lstAt (S : Sto) (n : Nat) : Option (List D) := match S[n]? with
  | some (.lst xs) => some xs
  | _ => none
theorem lstAt_some {S : Sto} {n : Nat} {xs : List D} (h : lstAt S n = some xs) : S[n]? = some (.lst xs) := by
  unfold lstAt at h
  split at h
  · rename_i e
    cases h
    exact e
  · cases h
theorem lstAt_of {S : Sto} {n : Nat} {xs : List D} (h : S[n]? = some (.lst xs)) : lstAt S n = some xs := by
  unfold lstAt
  rw [h]
/-! ### ints, texts -/
def vAdd : D → D → Sto → Ou D
  | .int i, .int j, S => .ok (.int (i + j)) S
  | .str a, .str b, S => if a.length + b.length ≤ 16777216 then .ok (.str (a ++ b)) S else .bad
  | .ref m, .ref n, S => match lstAt S m, lstAt S n with
    | some xs, some ys => if xs.length + ys.length ≤ 16777216 then .ok (.ref S.length) (S ++ [.lst (xs ++ ys)]) else .bad
    | _, _ => .bad
  | _, _, _ => .bad
def vSub : D → D → Sto → Ou D
  | .int i, .int j, S => .ok (.int (i - j)) S
  | _, _, _ => .bad
def vMul : D → D → Sto → Ou D
  | .int i, .int j, S => if (-18446744073709551616 < i ∧ i < 18446744073709551616) ∨ (-18446744073709551616 < j ∧ j < 18446744073709551616) then .ok (.int (i * j)) S else .bad
  | .ref m, .int k, S => match lstAt S m with
    | some xs => if -9223372036854775808 ≤ k ∧ k < 9223372036854775808 ∧ xs.length * k.toNat ≤ 16777216 then .ok (.ref S.length) (S ++ [.lst (List.replicate k.toNat xs).flatten]) else .bad
    | _ => .bad
  | _, _, _ => .bad
def vFdiv : D → D → Sto → Ou D
  | .int i, .int j, S => if 0 < j ∧ j < 1073741824 then .ok (.int (i / j)) S else .bad
  | _, _, _ => .bad
def vMod : D → D → Sto → Ou D
  | .int i, .int j, S => if 0 < j then .ok (.int (i % j)) S else .bad
  | _, _, _ => .bad
def vPow : D → D → Sto → Ou D
  | .int i, .int j, S => if 0 ≤ j ∧ j ≤ 1000000 ∧ i.natAbs < 18446744073709551616 then .ok (.int (i ^ j.toNat)) S else .bad
  | _, _, _ => .bad
def vNeg : D → Sto → Ou D
  | .int i, S => .ok (.int (-i)) S
  | _, _ => .bad
theorem sz16 {n : Nat} (h : n ≤ 16777216) : n ≤ sizeLine := by rw [sizeLine_eq]; exact h
theorem sz16lt {n : Nat} (h : n < 16777216) : n < sizeLine := by rw [sizeLine_eq]; exact h
section
variable {L : Ly} {X : Cx}
theorem ROlst {K : PySem.W.Frag} {H : Hp} {ρ : List Addr} {a : Addr} {ds : List D} (h : RO K L H ρ a (O.lst ds)) : ∃ xs, H a = some (.lst xs) ∧ RVs K H ρ ds xs := h
theorem RVs.flat {K : PySem.W.Frag} {H : Hp} {ρ : List Addr} {ds : List D} {xs : List V} (h : RVs K H ρ ds xs) : ∀ k : Nat, RVs K H ρ (List.replicate k ds).flatten (List.replicate k xs).flatten
  | 0 => by simpa using RVs.nil
  | k + 1 => by simpa [List.replicate_succ] using h.append (RVs.flat h k)
theorem om_add : OpM L X (binaryOp .Add) vAdd := by
  intro pins s σ H x y v u Q I rx ry ⟨Wh, ρ, S, dx, dy, rs, hx, hy, g⟩
  cases hx <;> cases hy <;> first | exact False.elim g | skip
  · exact op_add pins s σ H _ _ v u Q I rx ry ⟨_, _, rfl, rfl, g.ok rs (.int _)⟩
  · obtain ⟨hl, g⟩ := Gd.ifp g
    exact op_add_str pins s σ H _ _ v u Q I rx ry ⟨_, _, rfl, rfl, sz16 hl, g.ok rs (.str _)⟩
  · rename_i m a ha n b hb
    simp only [vAdd] at g
    cases h1 : lstAt S m with
    | none => rw [h1] at g; exact g.elim
    | some xs =>
      cases h2 : lstAt S n with
      | none => rw [h1, h2] at g; exact g.elim
      | some ys =>
        rw [h1, h2] at g
        obtain ⟨hl, g⟩ := Gd.ifp g
        obtain ⟨zs, e1, r1⟩ := rs.ob _ _ _ (lstAt_some h1) ha
        obtain ⟨ws, e2, r2⟩ := rs.ob _ _ _ (lstAt_some h2) hb
        refine op_cat pins s σ H _ _ v u Q I rx ry ⟨a, b, zs, ws, rfl, rfl, e1, e2, sz16 (by rw [← r1.length, ← r2.length]; exact hl), fun p hp => ?_⟩
        exact g.new rs hp ⟨_, upd_same, (r1.append r2).ext (.new hp _)⟩
theorem om_sub : OpM L X (binaryOp .Sub) vSub := by
  intro pins s σ H x y v u Q I rx ry ⟨Wh, ρ, S, dx, dy, rs, hx, hy, g⟩
  cases hx <;> cases hy <;> first | exact False.elim g | skip
  exact op_sub pins s σ H _ _ v u Q I rx ry ⟨_, _, rfl, rfl, g.ok rs (.int _)⟩
theorem om_mul : OpM L X (binaryOp .Mult) vMul := by
  intro pins s σ H x y v u Q I rx ry ⟨Wh, ρ, S, dx, dy, rs, hx, hy, g⟩
  cases hx <;> cases hy <;> first | exact False.elim g | skip
  · obtain ⟨h, g⟩ := Gd.ifp g
    refine op_mul pins s σ H _ _ v u Q I rx ry ⟨_, _, rfl, rfl, ?_, g.ok rs (.int _)⟩
    rcases h with h | h
    · exact Or.inl (by constructor <;> omega)
    · exact Or.inr (by constructor <;> omega)
  · rename_i m a ha k
    simp only [vMul] at g
    cases h1 : lstAt S m with
    | none => rw [h1] at g; exact g.elim
    | some xs =>
      rw [h1] at g
      obtain ⟨hl, g⟩ := Gd.ifp g
      obtain ⟨zs, e1, r1⟩ := rs.ob _ _ _ (lstAt_some h1) ha
      refine op_rep pins s σ H _ _ v u Q I rx ry ⟨a, k, zs, rfl, rfl, e1, by omega, by omega, sz16 (by rw [← r1.length]; exact hl.2.2), fun p hp => ?_⟩
      exact g.new rs hp ⟨_, upd_same, (r1.flat _).ext (.new hp _)⟩
theorem om_fdiv : OpM L X (binaryOp .FloorDiv) vFdiv := by
  intro pins s σ H x y v u Q I rx ry ⟨Wh, ρ, S, dx, dy, rs, hx, hy, g⟩
  cases hx <;> cases hy <;> first | exact False.elim g | skip
  obtain ⟨h, g⟩ := Gd.ifp g
  exact op_fdiv pins s σ H _ _ v u Q I rx ry ⟨_, _, rfl, rfl, h, g.ok rs (.int _)⟩
theorem om_mod : OpM L X (binaryOp .Mod) vMod := by
  intro pins s σ H x y v u Q I rx ry ⟨Wh, ρ, S, dx, dy, rs, hx, hy, g⟩
  cases hx <;> cases hy <;> first | exact False.elim g | skip
  obtain ⟨h, g⟩ := Gd.ifp g
  exact op_mod pins s σ H _ _ v u Q I rx ry ⟨_, _, rfl, rfl, h, g.ok rs (.int _)⟩
theorem om_pow : OpM L X (binaryOp .Pow) vPow := by
  intro pins s σ H x y v u Q I rx ry ⟨Wh, ρ, S, dx, dy, rs, hx, hy, g⟩
  cases hx <;> cases hy <;> first | exact False.elim g | skip
  obtain ⟨h, g⟩ := Gd.ifp g
  exact op_pow pins s σ H _ _ v u Q I rx ry ⟨_, _, rfl, rfl, ⟨h.1, h.2.1, by have := h.2.2; omega⟩, g.ok rs (.int _)⟩
theorem um_neg : UnR X (unaryOp .USub) (rM1 X.K L vNeg) := by
  intro pins s σ H x v Q I rx ⟨Wh, ρ, S, dx, rs, hx, g⟩
  cases hx <;> first | exact False.elim g | skip
  exact un_neg pins s σ H _ v Q I rx ⟨_, rfl, g.ok rs (.int _)⟩
theorem me_un {W : WX} {a : Expr} {fa : Fx D} {g : D → Sto → Ou D} {op : UnaryOp} {pos : Pos} (ho : UnR X (unaryOp op) (rM1 X.K L g)) (ha : ME L X W a fa) : ME L X W (.UnaryOp op a pos) (op1 g fa) :=
  peI (pe_un ho ha) fun _ _ _ h => one h
end

/-! ### comparisons -/
/-- the order of tuples: items are ints or texts -/
def ltD : D → D → Option Bool
  | .int i, .int j => some (decide (i < j))
  | .str a, .str b => some (decide (a.cps.toList < b.cps.toList))
  | _, _ => none
def vLt : D → D → Sto → Ou D
  | .int i, .int j, S => .ok (.bl (decide (i < j))) S
  | .str i, .str j, S => .ok (.bl (decide (i.cps.toList < j.cps.toList))) S
  | _, _, _ => .bad
def vGt : D → D → Sto → Ou D
  | .int i, .int j, S => .ok (.bl (decide (j < i))) S
  | .str i, .str j, S => .ok (.bl (decide (j.cps.toList < i.cps.toList))) S
  | _, _, _ => .bad
def vLe : D → D → Sto → Ou D
  | .int i, .int j, S => .ok (.bl (decide (i ≤ j))) S
  | _, _, _ => .bad
def vGe : D → D → Sto → Ou D
  | .int i, .int j, S => .ok (.bl (decide (j ≤ i))) S
  | _, _, _ => .bad
section
variable {L : Ly} {X : Cx}
theorem om_lt : OpM L X (compareOp .Lt) vLt := by
  intro pins s σ H x y v u Q I rx ry ⟨Wh, ρ, S, dx, dy, rs, hx, hy, g⟩
  cases hx <;> cases hy <;> first | exact False.elim g | skip
  · exact op_lt pins s σ H _ _ v u Q I rx ry ⟨_, _, rfl, rfl, g.ok rs (.bl _)⟩
  · exact op_lt_str pins s σ H _ _ v u Q I rx ry ⟨_, _, rfl, rfl, g.ok rs (.bl _)⟩
theorem om_gt : OpM L X (compareOp .Gt) vGt := by
  intro pins s σ H x y v u Q I rx ry ⟨Wh, ρ, S, dx, dy, rs, hx, hy, g⟩
  cases hx <;> cases hy <;> first | exact False.elim g | skip
  · exact op_gt pins s σ H _ _ v u Q I rx ry ⟨_, _, rfl, rfl, g.ok rs (.bl _)⟩
  · exact op_gt_str pins s σ H _ _ v u Q I rx ry ⟨_, _, rfl, rfl, g.ok rs (.bl _)⟩
theorem om_le : OpM L X (compareOp .LtE) vLe := by
  intro pins s σ H x y v u Q I rx ry ⟨Wh, ρ, S, dx, dy, rs, hx, hy, g⟩
  cases hx <;> cases hy <;> first | exact False.elim g | skip
  · exact op_le pins s σ H _ _ v u Q I rx ry ⟨_, _, rfl, rfl, g.ok rs (.bl _)⟩
theorem om_ge : OpM L X (compareOp .GtE) vGe := by
  intro pins s σ H x y v u Q I rx ry ⟨Wh, ρ, S, dx, dy, rs, hx, hy, g⟩
  cases hx <;> cases hy <;> first | exact False.elim g | skip
  · exact op_ge pins s σ H _ _ v u Q I rx ry ⟨_, _, rfl, rfl, g.ok rs (.bl _)⟩
end

/-! ### == by content -/
mutual
def toP (S : Sto) : Nat → D → Option PyData
  | 0, _ => none
  | _ + 1, .non => some .none
  | _ + 1, .bl b => some (.bool b)
  | _ + 1, .int i => some (.int i)
  | _ + 1, .str x => some (.str x)
  | n + 1, .tup ds => (toPs S n ds).map .tuple
  | n + 1, .frl ds => (toPs S n ds).map .list
  | n + 1, .ref k => match S[k]? with
    | some (.lst ds) => (toPs S n ds).map .list
    | _ => none
def toPs (S : Sto) : Nat → List D → Option (List PyData)
  | _, [] => some []
  | 0, _ :: _ => none
  | n + 1, d :: ds => match toP S (n + 1) d, toPs S (n + 1) ds with
    | some p, some ps => some (p :: ps)
    | _, _ => none
end
end Mi

set_option Elab.async false
set_option linter.all false
set_option maxRecDepth 100000
set_option maxHeartbeats 2000000
set_option autoImplicit false
/-! Mi4: ==, in, is; displays; subscripts; fields -/
namespace Mi
open PySem PySem.Spec L2 PyProof.Rows

section
variable {K : PySem.W.Frag} {L : Ly} {ρ : List Addr} {S : Sto} {H : Hp}
mutual
theorem dp_of (rs : RSt K L ρ S H) : ∀ (n : Nat) (d : D) (v : V) (p : PyData), RV K H ρ d v → toP S n d = some p → Dp K H v p
  | 0, d, v, p, _, e => by unfold toP at e; cases e
  | n + 1, .non, v, p, r, e => by unfold toP at e; cases e; cases r; exact .non
  | n + 1, .bl b, v, p, r, e => by unfold toP at e; cases e; cases r; exact .bl b
  | n + 1, .int b, v, p, r, e => by unfold toP at e; cases e; cases r; exact .int b
  | n + 1, .str b, v, p, r, e => by unfold toP at e; cases e; cases r; exact .str b
  | n + 1, .tup ds, v, p, r, e => by
    unfold toP at e
    obtain ⟨ps, e1, e2⟩ := Option.map_eq_some_iff.mp e
    subst e2
    cases r with
    | tup h1 h2 => exact .tup h1 (dp_all rs n ds _ ps h2 e1)
  | n + 1, .frl ds, v, p, r, e => by
    unfold toP at e
    obtain ⟨ps, e1, e2⟩ := Option.map_eq_some_iff.mp e
    subst e2
    cases r with
    | frl h1 h2 => exact .lst h1.seq (dp_all rs n ds _ ps h2 e1)
  | n + 1, .ref k, v, p, r, e => by
    unfold toP at e
    cases r with
    | ref h1 =>
      split at e
      · rename_i ds hk
        obtain ⟨ps, e1, e2⟩ := Option.map_eq_some_iff.mp e
        subst e2
        obtain ⟨xs, a1, a2⟩ := rs.ob _ _ _ hk h1
        exact .lst (.of a1) (dp_all rs n ds _ ps a2 e1)
      · cases e
theorem dp_all (rs : RSt K L ρ S H) : ∀ (n : Nat) (ds : List D) (vs : List V) (ps : List PyData), RVs K H ρ ds vs → toPs S n ds = some ps → DpAll K H vs ps
  | n, [], vs, ps, r, e => by
    unfold toPs at e
    cases e
    cases r
    exact .nil
  | 0, d :: ds, vs, ps, r, e => by unfold toPs at e; cases e
  | n + 1, d :: ds, vs, ps, r, e => by
    unfold toPs at e
    split at e
    · rename_i p qs e1 e2
      cases e
      cases r with
      | cons r1 r2 => exact .cons (dp_of rs (n + 1) d _ p r1 e1) (dp_all rs (n + 1) ds _ qs r2 e2)
    · cases e
end
end
/-- == by content: None where it is not served -/
def eqD (S : Sto) (x y : D) : Option Bool := match toP S 16 x, toP S 16 y with
  | some d, some e => if SeqAt.shaped d = true ∧ SeqAt.shaped e = true then some (PyData.eqv d e) else none
  | _, _ => none
def ofO (o : Option Bool) (S : Sto) : Ou D := match o with
  | some b => .ok (.bl b) S
  | none => .bad
def vEq (x y : D) (S : Sto) : Ou D := ofO (eqD S x y) S
def vNe (x y : D) (S : Sto) : Ou D := ofO ((eqD S x y).map (!·)) S
def isNon : D → Bool
  | .non => true
  | _ => false
def vIs : D → D → Sto → Ou D
  | x, .non, S => .ok (.bl (isNon x)) S
  | .bl a, .bl b, S => .ok (.bl (decide (a = b))) S
  | _, _, _ => .bad
def vIsN : D → D → Sto → Ou D
  | x, .non, S => .ok (.bl (!isNon x)) S
  | .bl a, .bl b, S => .ok (.bl (!decide (a = b))) S
  | _, _, _ => .bad
/-! dicts by keys -/
def keyD : D → Option Key
  | .int i => some (.inl i)
  | .str x => some (.inr x)
  | _ => none
def dGet (kvs : List (Key × D)) (k : Key) : Option D := (kvs.find? fun kv => decide (kv.1 = k)).map (·.2)
def dPut (kvs : List (Key × D)) (k : Key) (v : D) : List (Key × D) :=
  if (kvs.any fun kv => decide (kv.1 = k)) = true then kvs.map (fun kv => if kv.1 = k then (kv.1, v) else kv) else kvs ++ [(k, v)]
def dDel (kvs : List (Key × D)) (k : Key) : List (Key × D) := kvs.filter fun kv => decide (kv.1 ≠ k)
/-- a dict of the store, to be read -/
def dctAt (S : Sto) (n : Nat) : Option (List (Key × D)) := match S[n]? with
  | some (.dct kvs) => some kvs
  | some (.lkd kvs) => some kvs
  | _ => none
/-- to be changed -/
def dctW (S : Sto) (n : Nat) : Option (List (Key × D)) := match S[n]? with
  | some (.dct kvs) => some kvs
  | _ => none
section
variable {K : PySem.W.Frag} {L : Ly} {ρ : List Addr} {S : Sto} {H : Hp}
theorem RV.isNon {d : D} {v : V} (r : RV K H ρ d v) : decide (v = .non) = Mi.isNon d := by cases r <;> simp [Mi.isNon]
theorem keyD_kV {d : D} {v : V} {k : Key} (r : RV K H ρ d v) (e : keyD d = some k) : v = kV k := by
  cases r <;> first | (cases e; rfl) | cases e
theorem RKVs.len {kvs : List (Key × D)} {kxs : List (Key × V)} (r : RKVs K H ρ kvs kxs) : kvs.length = kxs.length := Paired.length r
theorem RKVs.get : ∀ {kvs : List (Key × D)} {kxs : List (Key × V)}, RKVs K H ρ kvs kxs → ∀ k, RF K H ρ (dGet kvs k) (valV kxs k)
  | _, _, .nil, k => True.intro
  | (a, d) :: r, (b, v) :: t, .cons ⟨e1, e2⟩ h, k => by
    have e1' : a = b := e1
    subst e1'
    unfold dGet valV
    by_cases e : a = k
    · simp [List.find?_cons, e]; exact e2
    · simp only [List.find?_cons, e, decide_false]
      exact RKVs.get h k
theorem RKVs.any : ∀ {kvs : List (Key × D)} {kxs : List (Key × V)}, RKVs K H ρ kvs kxs → ∀ k, (kvs.any fun kv => decide (kv.1 = k)) = kxs.any fun kv => decide (kv.1 = k)
  | _, _, .nil, k => rfl
  | (a, d) :: r, (b, v) :: t, .cons ⟨e1, e2⟩ h, k => by
    have e1' : a = b := e1
    subst e1'
    rw [List.any_cons, List.any_cons, RKVs.any h k]
theorem RKVs.repl {kvs : List (Key × D)} {kxs : List (Key × V)} (r : RKVs K H ρ kvs kxs) (k : Key) {d : D} {v : V} (rv : RV K H ρ d v) :
    RKVs K H ρ (kvs.map fun kv => if kv.1 = k then (kv.1, d) else kv) (kxs.map fun kv => if kv.1 = k then (kv.1, v) else kv) := by
  induction r with
  | nil => exact .nil
  | cons h t ih =>
    refine .cons ?_ ih
    obtain ⟨h1, h2⟩ := h
    dsimp only
    rw [h1]
    split
    · exact ⟨rfl, rv⟩
    · exact ⟨h1, h2⟩
theorem RKVs.snoc {kvs : List (Key × D)} {kxs : List (Key × V)} (r : RKVs K H ρ kvs kxs) (k : Key) {d : D} {v : V} (rv : RV K H ρ d v) : RKVs K H ρ (kvs ++ [(k, d)]) (kxs ++ [(k, v)]) := by
  induction r with
  | nil => exact .cons ⟨rfl, rv⟩ .nil
  | cons h t ih => exact .cons h ih
theorem RKVs.put {kvs : List (Key × D)} {kxs : List (Key × V)} (r : RKVs K H ρ kvs kxs) (k : Key) {d : D} {v : V} (rv : RV K H ρ d v) : RKVs K H ρ (dPut kvs k d) (putK kxs k v) := by
  unfold dPut putK
  rw [r.any k]
  split
  · exact r.repl k rv
  · exact r.snoc k rv
theorem RKVs.del {kvs : List (Key × D)} {kxs : List (Key × V)} (r : RKVs K H ρ kvs kxs) (k : Key) : RKVs K H ρ (dDel kvs k) (dropK kxs k) := by
  induction r with
  | nil => exact .nil
  | cons h t ih =>
    rename_i p q ps qs
    have h1 : p.1 = q.1 := h.1
    unfold dDel dropK at ih ⊢
    rw [List.filter_cons, List.filter_cons, h1]
    split
    · exact .cons h ih
    · exact ih
theorem dctAt_rd (rs : RSt K L ρ S H) {n : Nat} {a : Addr} {kvs : List (Key × D)} (ha : ρ[n]? = some a) (h : dctAt S n = some kvs) : ∃ kxs, Rd H a (.dK kxs) ∧ RKVs K H ρ kvs kxs := by
  unfold dctAt at h
  split at h
  · rename_i e
    cases h
    obtain ⟨kxs, h1, h2⟩ := rs.ob _ _ _ e ha
    exact ⟨kxs, .inl h1, h2⟩
  · rename_i e
    cases h
    obtain ⟨o, kxs, h1, h2⟩ := rs.ob _ _ _ e ha
    exact ⟨kxs, .inr ⟨o, h1⟩, h2⟩
  · cases h
theorem dctW_at (rs : RSt K L ρ S H) {n : Nat} {a : Addr} {kvs : List (Key × D)} (ha : ρ[n]? = some a) (h : dctW S n = some kvs) : ∃ kxs, H a = some (.dK kxs) ∧ RKVs K H ρ kvs kxs := by
  unfold dctW at h
  split at h
  · rename_i e
    cases h
    exact rs.ob _ _ _ e ha
  · cases h
theorem dget_of (rs : RSt K L ρ S H) {n : Nat} {a : Addr} {kvs : List (Key × D)} {d : D} {v : V} {k : Key} (ha : ρ[n]? = some a) (h : dctAt S n = some kvs) (r : RV K H ρ d v) (hk : keyD d = some k) :
    ∃ o, DGet H a v o ∧ RF K H ρ (dGet kvs k) o := by
  obtain ⟨kxs, h1, h2⟩ := dctAt_rd rs ha h
  exact ⟨valV kxs k, .inl ⟨kxs, k, h1, keyD_kV r hk, rfl⟩, h2.get k⟩
theorem RF.someD {d : D} {o : Option V} (h : RF K H ρ (some d) o) : ∃ v, o = some v ∧ RV K H ρ d v := by
  cases o with
  | none => exact h.elim
  | some v => exact ⟨v, rfl, h⟩
theorem RF.isSome {a : Option D} {b : Option V} (h : RF K H ρ a b) : a.isSome = b.isSome := by
  cases a <;> cases b <;> first | rfl | exact h.elim
theorem RF.getD {a : Option D} {b : Option V} {d : D} {v : V} (h : RF K H ρ a b) (r : RV K H ρ d v) : RV K H ρ (a.getD d) (b.getD v) := by
  cases a <;> cases b <;> first | exact r | exact h | exact h.elim
end
/-- x in y -/
def isIn (S : Sto) (x y : D) : Option Bool := match y with
  | .ref n => match dctAt S n with
    | some kvs => (keyD x).map fun k => (dGet kvs k).isSome
    | none => match toP S 16 x, toP S 16 y with
      | some d, some (.list ds) => if SeqAt.shaped d = true ∧ SeqAt.shaped (.list ds) = true then some (ds.any fun z => PyData.eqv z d) else none
      | _, _ => none
  | .frl _ => match toP S 16 x, toP S 16 y with
    | some d, some (.list ds) => if SeqAt.shaped d = true ∧ SeqAt.shaped (.list ds) = true then some (ds.any fun z => PyData.eqv z d) else none
    | _, _ => none
  | _ => none
def vIn (x y : D) (S : Sto) : Ou D := ofO (isIn S x y) S
def vNotIn (x y : D) (S : Sto) : Ou D := ofO ((isIn S x y).map (!·)) S
section
variable {L : Ly} {X : Cx}
theorem om_eq (hu : X.A.units + 64 < cLine) : OpM L X (compareOp .Eq) vEq := by
  intro pins s σ H x y v u Q I rx ry ⟨Wh, ρ, S, dx, dy, rs, hx, hy, g⟩
  unfold vEq eqD at g
  cases e1 : toP S 16 dx with
  | none => simp only [e1] at g; exact g.elim
  | some d =>
    cases e2 : toP S 16 dy with
    | none => simp only [e1, e2] at g; exact g.elim
    | some e =>
      simp only [e1, e2] at g
      by_cases hc : SeqAt.shaped d = true ∧ SeqAt.shaped e = true
      · rw [if_pos hc] at g
        exact op_eqD hu pins s σ H _ _ v u Q I rx ry ⟨d, e, dp_of rs 16 dx x d hx e1, dp_of rs 16 dy y e hy e2, hc.1, hc.2, Gd.ok g rs (.bl _)⟩
      · rw [if_neg hc] at g
        exact g.elim
theorem om_ne (hu : X.A.units + 64 < cLine) : OpM L X (compareOp .NotEq) vNe := by
  intro pins s σ H x y v u Q I rx ry ⟨Wh, ρ, S, dx, dy, rs, hx, hy, g⟩
  unfold vNe eqD at g
  cases e1 : toP S 16 dx with
  | none => simp only [e1] at g; exact g.elim
  | some d =>
    cases e2 : toP S 16 dy with
    | none => simp only [e1, e2] at g; exact g.elim
    | some e =>
      simp only [e1, e2] at g
      by_cases hc : SeqAt.shaped d = true ∧ SeqAt.shaped e = true
      · rw [if_pos hc] at g
        exact op_neD hu pins s σ H _ _ v u Q I rx ry ⟨d, e, dp_of rs 16 dx x d hx e1, dp_of rs 16 dy y e hy e2, hc.1, hc.2, Gd.ok g rs (.bl _)⟩
      · rw [if_neg hc] at g
        exact g.elim
theorem om_is : OpM L X (compareOp .Is) vIs := by
  intro pins s σ H x y v u Q I rx ry ⟨Wh, ρ, S, dx, dy, rs, hx, hy, g⟩
  cases hy with
  | non =>
    refine op_isN pins s σ H _ _ v u Q I rx ry ⟨rfl, ?_⟩
    rw [hx.isNon]
    exact Gd.ok (x := D.bl (isNon dx)) (by cases dx <;> exact g) rs (RV.bl _)
  | bl b =>
    cases hx <;> first | exact False.elim g | skip
    exact op_is_bl pins s σ H _ _ v u Q I rx ry ⟨_, _, rfl, rfl, g.ok rs (.bl _)⟩
  | _ => cases hx <;> exact False.elim g
theorem om_isN : OpM L X (compareOp .IsNot) vIsN := by
  intro pins s σ H x y v u Q I rx ry ⟨Wh, ρ, S, dx, dy, rs, hx, hy, g⟩
  cases hy with
  | non =>
    refine op_notN pins s σ H _ _ v u Q I rx ry ⟨rfl, ?_⟩
    rw [hx.isNon]
    exact Gd.ok (x := D.bl (!isNon dx)) (by cases dx <;> exact g) rs (RV.bl _)
  | bl b =>
    cases hx <;> first | exact False.elim g | skip
    exact op_isnot_bl pins s σ H _ _ v u Q I rx ry ⟨_, _, rfl, rfl, g.ok rs (.bl _)⟩
  | _ => cases hx <;> exact False.elim g
theorem isIn_cases {S : Sto} {dx dy : D} {b : Bool} (h : isIn S dx dy = some b) :
    (∃ n kvs k, dy = .ref n ∧ dctAt S n = some kvs ∧ keyD dx = some k ∧ b = (dGet kvs k).isSome) ∨
    ∃ d ds, toP S 16 dx = some d ∧ toP S 16 dy = some (.list ds) ∧ SeqAt.shaped d = true ∧ SeqAt.shaped (.list ds) = true ∧ b = ds.any fun z => PyData.eqv z d := by
  unfold isIn at h
  split at h
  · rename_i n
    split at h
    · rename_i kvs e
      obtain ⟨k, h1, h2⟩ := Option.map_eq_some_iff.mp h
      exact .inl ⟨n, kvs, k, rfl, e, h1, h2.symm⟩
    · split at h
      · rename_i d ds e1 e2
        split at h
        · rename_i hc
          cases h
          exact .inr ⟨d, ds, e1, e2, hc.1, hc.2, rfl⟩
        · cases h
      · cases h
  · split at h
    · rename_i d ds e1 e2
      split at h
      · rename_i hc
        cases h
        exact .inr ⟨d, ds, e1, e2, hc.1, hc.2, rfl⟩
      · cases h
    · cases h
  · cases h
theorem om_in (hu : X.A.units + 65 < cLine) : OpM L X (compareOp .In) vIn := by
  intro pins s σ H x y v u Q I rx ry ⟨Wh, ρ, S, dx, dy, rs, hx, hy, g⟩
  unfold vIn at g
  cases e : isIn S dx dy with
  | none => rw [e] at g; exact g.elim
  | some b =>
    rw [e] at g
    have q : Q (.bl b) H := Gd.ok (x := D.bl b) g rs (RV.bl b)
    rcases isIn_cases e with ⟨n, kvs, k, rfl, h1, h2, rfl⟩ | ⟨d, ds, e1, e2, s1, s2, rfl⟩
    · cases hy with
      | ref ha =>
        rename_i a
        obtain ⟨o, go, ro⟩ := dget_of rs ha h1 hx h2
        obtain rfl : u = Value.ref a := ry
        refine d_in (by omega) I go rx fun s' I' => ⟨.bl _, H, I', rfl, ?_⟩
        rw [← ro.isSome]
        exact q
    · exact op_inD hu pins s σ H _ _ v u Q I rx ry ⟨d, ds, dp_of rs 16 dx x d hx e1, dp_of rs 16 dy y _ hy e2, s1, s2, q⟩
theorem om_notIn (hu : X.A.units + 65 < cLine) : OpM L X (compareOp .NotIn) vNotIn := by
  intro pins s σ H x y v u Q I rx ry ⟨Wh, ρ, S, dx, dy, rs, hx, hy, g⟩
  unfold vNotIn at g
  cases e : isIn S dx dy with
  | none => rw [e] at g; exact g.elim
  | some b =>
    rw [e] at g
    have q : Q (.bl (!b)) H := Gd.ok (x := D.bl (!b)) g rs (RV.bl _)
    rcases isIn_cases e with ⟨n, kvs, k, rfl, h1, h2, rfl⟩ | ⟨d, ds, e1, e2, s1, s2, rfl⟩
    · cases hy with
      | ref ha =>
        rename_i a
        obtain ⟨o, go, ro⟩ := dget_of rs ha h1 hx h2
        obtain rfl : u = Value.ref a := ry
        refine d_notIn (by omega) I go rx fun s' I' => ⟨.bl _, H, I', rfl, ?_⟩
        rw [← ro.isSome]
        exact q
    · exact op_notInD hu pins s σ H _ _ v u Q I rx ry ⟨d, ds, dp_of rs 16 dx x d hx e1, dp_of rs 16 dy y _ hy e2, s1, s2, q⟩
end

/-! ### lists of expressions, displays -/
def aN : Fx (List D) := fun _ S => .ok [] S
def aC (fa : Fx D) (fr : Fx (List D)) : Fx (List D) := bnd fa fun x => bnd fr fun xs => fun _ S => .ok (x :: xs) S
def eTup (fa : Fx (List D)) : Fx D := opS (fun xs S => if xs.length ≤ 16777216 then .ok (.tup xs) S else .bad) fa
def eLst (fa : Fx (List D)) : Fx D := opS (fun xs S => if xs.length ≤ 16777216 then .ok (.ref S.length) (S ++ [.lst xs]) else .bad) fa
section
variable {L : Ly} {X : Cx} {W : WX} {e : Expr} {es : List Expr} {fa : Fx D} {fr : Fx (List D)} {pos : Pos}
theorem ma_nil : MA L X W [] aN := paI pa_nil fun σ H Q ⟨ρ, env, S, rs, re, g⟩ => g.ok rs .nil
theorem ma_cons (ha : ME L X W e fa) (hr : MA L X W es fr) (hs : starEach (e :: es) X.env = (false, eval e X.env) :: starEach es X.env := by rfl) : MA L X W (e :: es) (aC fa fr) :=
  paI (pa_cons ha hr hs) fun σ H Q h => (tG.bind h).imp fun v H1 ⟨ρ1, env, S1, x, rs, re, rv, g1⟩ =>
    ⟨ρ1, env, S1, rs, re, (Gd.bind (R := fun H ρ => RVs X.K H ρ) (o := fr env S1) g1).imp fun u H2 ⟨ρ2, S2, y, ex, rs2, ry, g2⟩ => g2.ok rs2 (.cons (rv.ext ex) ry)⟩
theorem me_tup {k : Nat} (h : MA L X W es fr) : ME L X W (.Tuple es k pos) (eTup fr) :=
  peI (pe_tup h) fun σ H Q h => (sev h).imp fun xs H1 ⟨Wh, ρ, S, ds, rs, rv, g⟩ => by
    obtain ⟨hl, g⟩ := Gd.ifp g
    refine ⟨sz16 (by rw [← rv.length]; exact hl), fun p hp => ?_⟩
    exact g ρ _ _ (.new0 hp) (rs.keep hp) (.tup (.of upd_same) (rv.ext (.new0 hp)))
theorem me_lst (h : MA L X W es fr) : ME L X W (.List es pos) (eLst fr) :=
  peI (pe_lst h) fun σ H Q h => (sev h).imp fun xs H1 ⟨Wh, ρ, S, ds, rs, rv, g⟩ => by
    obtain ⟨hl, g⟩ := Gd.ifp g
    refine ⟨sz16 (by rw [← rv.length]; exact hl), fun p hp => ?_⟩
    exact g.new rs hp ⟨_, upd_same, rv.ext (.new hp _)⟩
/-- {} -/
def eDnew : Fx D := fun _ S => .ok (.ref S.length) (S ++ [.dct []])
theorem me_dnew : ME L X W (.Dict [] [] pos) eDnew :=
  peI pe_dnewK fun σ H Q ⟨ρ, env, S, rs, re, g⟩ => fun p hp => Gd.new (u := .dct []) g rs hp ⟨[], upd_same, .nil⟩
end

/-! ### subscripts -/
/-- the item at i, of any sign -/
def atD {α : Type} (xs : List α) (i : Int) : Option α := atI xs i
def vIx : D → D → Sto → Ou D
  | .tup xs, .int i, S => match atI xs i with
    | some d => .ok d S
    | none => .bad
  | .frl xs, .int i, S => match atI xs i with
    | some d => .ok d S
    | none => .bad
  | .str z, .int i, S => if z.length ≤ 16777216 then match atI z.cps.toList i with
    | some c => .ok (.str ⟨#[c]⟩) S
    | none => .bad else .bad
  | .ref n, k, S => match lstAt S n, k with
    | some xs, .int i => match atI xs i with
      | some d => .ok d S
      | none => .bad
    | _, _ => match dctAt S n, keyD k with
      | some kvs, some key => match dGet kvs key with
        | some d => .ok d S
        | none => .bad
      | _, _ => .bad
  | _, _, _ => .bad
section
variable {L : Ly} {X : Cx} {W : WX} {a b : Expr} {fa fb : Fx D} {pos : Pos}
theorem atI_rel {K : PySem.W.Frag} {H : Hp} {ρ : List Addr} {ds : List D} {xs : List V} (r : RVs K H ρ ds xs) {i : Int} {d : D} (h : atI ds i = some d) : ∃ v, atI xs i = some v ∧ RV K H ρ d v := by
  unfold atI at h ⊢
  rw [← r.length]
  cases e : ixN ds.length i with
  | none => rw [e] at h; cases h
  | some j =>
    rw [e] at h
    exact r.get h
theorem ix_dict (hu : X.A.units + 1 < cLine) : IxR X (fun x y H Q => ∃ a v, x = .ref a ∧ DGet H a y (some v) ∧ Q v H) := by
  intro value slice pins s σ H x y v u Q I rx ry ⟨a, z, ex, g, q⟩ hs
  subst ex
  obtain rfl : v = Value.ref a := rx
  have hT := dict_typeIs I g
  unfold subscriptTail
  refine wpAny_bind ?_
  rw [getitemInPython_of_ne hT.not_modules]
  refine wpAny_bind (wpAny_specialOf hT PySem.F.slot_dict_getitem.lookup ?_)
  have fin : wpAny (model X.prog X.w) X.A (subscripted slice false (.ref a) u) (fun r s₃ => wpAny (model X.prog X.w) X.A (letTemporaryGo value (.ref a) r >>= fun _ => pure r) (EP X pins σ Q) X.xe s₃) X.xe s := by
    rw [hs]
    exact wpAny_operating (thn (d_getItem (Q := EP X pins σ Q) hu I g ry fun w' s' I' r' => ⟨z, H, I', r', q⟩) fun r s₃ h₃ => wpAny_bind (wpAny_letTemporaryGo (wpAny_pure h₃)))
  first
    | exact wpAny_pure (wpAny_bind fin)
    | exact wpAny_bind (wpAny_pure (wpAny_bind fin))
    | exact wpAny_bind fin
theorem im_ix (hu : X.A.units + 1 < cLine) : IxR X (rM2 X.K L vIx) := by
  intro value slice pins s σ H x y v u Q I rx ry ⟨Wh, ρ, S, dx, dy, rs, hx, hy, g⟩ hs
  cases hx with
  | tup h1 h2 =>
    cases hy <;> first | exact False.elim g | skip
    rename_i ds a xs i
    simp only [vIx] at g
    cases e : atI ds i with
    | none => rw [e] at g; exact g.elim
    | some d =>
      rw [e] at g
      obtain ⟨z, e2, r2⟩ := atI_rel h2 e
      exact ix_tup value slice pins s σ H _ _ v u Q I rx ry ⟨a, xs, i, z, rfl, rfl, h1, e2, g.ok rs r2⟩ hs
  | frl h1 h2 =>
    cases hy <;> first | exact False.elim g | skip
    rename_i ds a xs i
    simp only [vIx] at g
    cases e : atI ds i with
    | none => rw [e] at g; exact g.elim
    | some d =>
      rw [e] at g
      obtain ⟨z, e2, r2⟩ := atI_rel h2 e
      exact ix_list value slice pins s σ H _ _ v u Q I rx ry ⟨a, xs, i, z, rfl, rfl, h1.seq, e2, g.ok rs r2⟩ hs
  | str z =>
    cases hy <;> first | exact False.elim g | skip
    rename_i i
    simp only [vIx] at g
    obtain ⟨hl, g⟩ := Gd.ifp g
    cases e : atI z.cps.toList i with
    | none => rw [e] at g; exact g.elim
    | some c =>
      rw [e] at g
      exact ix_str value slice pins s σ H _ _ v u Q I rx ry ⟨z, i, c, rfl, rfl, sz16 hl, e, g.ok rs (.str _)⟩ hs
  | ref ha =>
    rename_i n a
    have byD : ∀ {o : Ou D}, Gd X.K L (fun H ρ => RV X.K H ρ) Wh ρ H (match dctAt S n, keyD dy with
      | some kvs, some key => match dGet kvs key with
        | some d => .ok d S
        | none => .bad
      | _, _ => .bad) Q → wpAny (model X.prog X.w) X.A (subscriptTail value slice v u) (EP X pins σ Q) X.xe s := fun {o} g => by
      cases h1 : dctAt S n with
      | none => rw [h1] at g; exact g.elim
      | some kvs =>
        cases h2 : keyD dy with
        | none => rw [h1, h2] at g; exact g.elim
        | some k =>
          rw [h1, h2] at g
          simp only at g
          obtain ⟨o, go, ro⟩ := dget_of rs ha h1 hy h2
          cases h3 : dGet kvs k with
          | none => rw [h3] at g; exact g.elim
          | some d =>
            rw [h3] at g ro
            obtain ⟨z, rfl, rz⟩ := ro.someD
            exact ix_dict hu value slice pins s σ H _ _ v u Q I rx ry ⟨a, z, rfl, go, g.ok rs rz⟩ hs
    simp only [vIx] at g
    cases e0 : lstAt S n with
    | none =>
      rw [e0] at g
      exact byD (o := .bad) g
    | some xs =>
      rw [e0] at g
      have nd : dctAt S n = none := by
        unfold dctAt
        rw [lstAt_some e0]
      cases hy <;> first | (simp only [nd] at g; exact g.elim) | skip
      rename_i i
      simp only at g
      cases e : atI xs i with
      | none => rw [e] at g; exact g.elim
      | some d =>
        rw [e] at g
        obtain ⟨ys, a1, a2⟩ := rs.ob _ _ _ (lstAt_some e0) ha
        obtain ⟨z, e2, r2⟩ := atI_rel a2 e
        exact ix_list value slice pins s σ H _ _ v u Q I rx ry ⟨a, ys, i, z, rfl, rfl, .of a1, e2, g.ok rs r2⟩ hs
  | _ => exact False.elim g
theorem me_ix (hu : X.A.units + 1 < cLine) (ha : ME L X W a fa) (hb : ME L X W b fb) (hs : PlainIx b := by exact fun _ _ => rfl) : ME L X W (.Subscript a b pos) (op2 vIx fa fb) :=
  peI (pe_ix (im_ix hu) ha hb hs) fun _ _ _ h => two h
end
end Mi

set_option Elab.async false
set_option linter.all false
set_option maxRecDepth 100000
set_option maxHeartbeats 2000000
set_option autoImplicit false
/-! Mi5: slices, fields, calls -/
namespace Mi
open PySem PySem.Spec L2 PyProof.Rows

/-! ### slices -/
def oN : Fx (Option Int) := fun _ S => .ok none S
def oS (f : Fx D) : Fx (Option Int) := bnd f fun d => fun _ S => match d with
  | .int i => .ok (some i) S
  | _ => .bad
def cutD (xs : List D) (lo hi : Option Int) : List D := (xs.drop (HT.sIx xs.length 0 lo)).take (HT.sIx xs.length xs.length hi - HT.sIx xs.length 0 lo)
def vSl (x : D) (lo hi : Option Int) (S : Sto) : Ou D := match x with
  | .str z => if z.length ≤ 16777216 then .ok (.str (cutS z lo hi)) S else .bad
  | .frl xs => .ok (.ref S.length) (S ++ [.lst (cutD xs lo hi)])
  | .ref n => match lstAt S n with
    | some xs => .ok (.ref S.length) (S ++ [.lst (cutD xs lo hi)])
    | none => .bad
  | _ => .bad
def eSl (fa : Fx D) (fl fh : Fx (Option Int)) : Fx D := bnd fa fun x => bnd fl fun l => bnd fh fun h => fun _ S => vSl x l h S
section
variable {L : Ly} {X : Cx} {W : WX} {a : Expr} {fa : Fx D} {fl fh : Fx (Option Int)} {lo hi : Option Expr} {pos p2 : Pos}
theorem mo_none : PO X none (tO X.K L W oN) := poI po_none fun σ H Q ⟨ρ, env, S, rs, re, g⟩ => g.ok rs rfl
theorem mo_some (ha : ME L X W a fa) : PO X (some a) (tO X.K L W (oS fa)) := poI (po_some ha) fun σ H Q h => (tG.bind h).imp fun v H1 ⟨ρ1, env, S1, x, rs, re, rv, g1⟩ => by
  cases rv <;> first | exact g1.elim | skip
  exact ⟨_, rfl, g1.ok rs rfl⟩
theorem cutD_rel {K : PySem.W.Frag} {H : Hp} {ρ : List Addr} {ds : List D} {xs : List V} (r : RVs K H ρ ds xs) (lo hi : Option Int) : RVs K H ρ (cutD ds lo hi) (cutV xs lo hi) := by
  unfold cutD cutV
  rw [r.length]
  exact (r.drop _).take _
def rMsl (K : PySem.W.Frag) (L : Ly) : V → Option Int → Option Int → Hp → VK → Prop := fun x lo hi H Q => ∃ Wh ρ S dx, RSt K L ρ S H ∧ RV K H ρ dx x ∧ Gd K L (fun H ρ => RV K H ρ) Wh ρ H (vSl dx lo hi S) Q
theorem sm_sl : SlR X (rMsl X.K L) := by
  intro pins s σ H x v vl vu lo hi sl Q I rx hs pl pu ⟨Wh, ρ, S, dx, rs, hx, g⟩
  cases hx <;> first | exact False.elim g | skip
  · simp only [vSl] at g
    obtain ⟨hl, g⟩ := Gd.ifp g
    exact sl_str pins s σ H _ v vl vu lo hi sl Q I rx hs pl pu ⟨_, rfl, sz16 hl, g.ok rs (.str _)⟩
  · rename_i ds a xs h1 h2
    simp only [vSl] at g
    exact sl_list pins s σ H _ v vl vu lo hi sl Q I rx hs pl pu ⟨a, xs, rfl, h1.seq, fun p hp => g.new rs hp ⟨_, upd_same, (cutD_rel h2 lo hi).ext (.new hp _)⟩⟩
  · rename_i n a ha
    simp only [vSl] at g
    cases e0 : lstAt S n with
    | none => rw [e0] at g; exact g.elim
    | some ds =>
      rw [e0] at g
      obtain ⟨xs, a1, a2⟩ := rs.ob _ _ _ (lstAt_some e0) ha
      exact sl_list pins s σ H _ v vl vu lo hi sl Q I rx hs pl pu ⟨a, xs, rfl, .of a1, fun p hp => g.new rs hp ⟨_, upd_same, (cutD_rel a2 lo hi).ext (.new hp _)⟩⟩
theorem me_sl (ha : ME L X W a fa) (hl : PO X lo (tO X.K L W fl)) (hh : PO X hi (tO X.K L W fh)) : ME L X W (.Subscript a (.Slice lo hi none p2) pos) (eSl fa fl fh) :=
  peI (pe_slice sm_sl ha hl hh) fun σ H Q h => (tG.bind h).imp fun v H1 ⟨ρ1, env, S1, x, rs, re, rv, g1⟩ =>
    ⟨ρ1, env, S1, rs, re, (Gd.bind (R := fun H ρ => RO_ H ρ) (o := fl env S1) g1).imp fun u H2 ⟨ρ2, S2, l, e2, rs2, rl, g2⟩ => by
      have rl' : l = u := rl
      subst rl'
      exact ⟨ρ2, env, S2, rs2, re.ext e2, (Gd.bind (R := fun H ρ => RO_ H ρ) (o := fh env S2) g2).imp fun w H3 ⟨ρ3, S3, y, e3, rs3, rh, g3⟩ => by
        have rh' : y = w := rh
        subst rh'
        exact ⟨_, ρ3, S3, x, rs3, (rv.ext e2).ext e3, g3⟩⟩⟩
end

/-! ### fields -/
def insAt (S : Sto) (d : D) : Option (Nat × Nat × List (Option D)) := match d with
  | .ref n => match S[n]? with
    | some (.ins c fs) => some (n, c, fs)
    | _ => none
  | _ => none
theorem insAt_some {S : Sto} {d : D} {n c : Nat} {fs : List (Option D)} (h : insAt S d = some (n, c, fs)) : d = .ref n ∧ S[n]? = some (.ins c fs) := by
  unfold insAt at h
  split at h
  · split at h
    · rename_i e
      cases h
      exact ⟨rfl, e⟩
    · cases h
  · cases h
structure FldOk (K : PySem.W.Frag) (L : Ly) (f : Str) (tbl : List (Nat × Nat)) : Prop where
  ok : ∀ c i, tbl.lookup c = some i → (L.fn c)[i]? = some f ∧ Cls K (L.ct c) ∧ NoAttr K (L.ct c) f
def vFld (tbl : List (Nat × Nat)) (d : D) (S : Sto) : Ou D := match insAt S d with
  | some (_, c, fs) => match tbl.lookup c with
    | some i => match fs[i]? with
      | some (some y) => .ok y S
      | _ => .bad
    | none => .bad
  | none => .bad
def eFld (tbl : List (Nat × Nat)) (fo : Fx D) : Fx D := op1 (vFld tbl) fo
section
variable {L : Ly} {X : Cx} {W : WX} {o value : Expr} {fo fv : Fx D} {f : Str} {pos pos' : Pos} {tbl : List (Nat × Nat)}
theorem ins_of {K : PySem.W.Frag} {ρ : List Addr} {S : Sto} {H : Hp} (rs : RSt K L ρ S H) {d : D} {x : V} {n c : Nat} {fs : List (Option D)} (rv : RV K H ρ d x) (h : insAt S d = some (n, c, fs)) :
    ∃ a dx fx, x = .ref a ∧ ρ[n]? = some a ∧ H a = some (.ins (L.ct c) dx fx) ∧ RFs K H ρ (L.fn c) fs fx := by
  obtain ⟨rfl, e⟩ := insAt_some h
  cases rv with
  | ref ha =>
    rename_i a
    obtain ⟨dx, fx, h1, h2⟩ := rs.ob _ _ _ e ha
    exact ⟨a, dx, fx, rfl, ha, h1, h2⟩
theorem me_fld (T : FldOk X.K L f tbl) (he : ME L X W o fo) (hb : attributeBase o f X.env (eval o X.env) = eval o X.env := by rfl) : ME L X W (.Attribute o f pos) (eFld tbl fo) :=
  peI (pe_fld he hb) fun σ H Q h => (one h).imp fun x H1 ⟨Wh, ρ, S, d, rs, rv, g⟩ => by
    unfold vFld at g
    cases e1 : insAt S d with
    | none => rw [e1] at g; exact g.elim
    | some p =>
      obtain ⟨n, c, fs⟩ := p
      simp only [e1] at g
      cases e2 : tbl.lookup c with
      | none => rw [e2] at g; exact g.elim
      | some i =>
        simp only [e2] at g
        obtain ⟨a, dx, fx, rfl, ha, hH, r⟩ := ins_of rs rv e1
        obtain ⟨t1, t2, t3⟩ := T.ok c i e2
        have rf := r.at_ i f t1
        cases e3 : fs[i]? with
        | none => rw [e3] at g; exact g.elim
        | some q =>
          cases q with
          | none => rw [e3] at g; exact g.elim
          | some y =>
            rw [e3] at g rf
            obtain ⟨v, hv, rv'⟩ := RF.someD rf
            exact ⟨a, _, dx, fx, v, rfl, hH, t2, t3, hv, Gd.ok g rs rv'⟩
end

/-! ### statements' readings -/
inductive Os where
  | nx (env : En) (S : Sto) | rt (d : D) (S : Sto) | bk (env : En) (S : Sto) | ct (env : En) (S : Sto) | ex (x : Xc) (env : En) (S : Sto) | bad
abbrev Fs := En → Sto → Os
section
variable (K : PySem.W.Frag) (L : Ly)
def Gs (W : WX) (ρ : List Addr) (H : Hp) (o : Os) (Dn : Ends) : Prop := match o with
  | .nx env S => ∀ ρ' H' σ', Ext ρ H ρ' H' → RSt K L ρ' S H' → REn K L H' ρ' env σ' → Dn.nx σ' H'
  | .bk env S => ∀ ρ' H' σ', Ext ρ H ρ' H' → RSt K L ρ' S H' → REn K L H' ρ' env σ' → Dn.bk σ' H'
  | .ct env S => ∀ ρ' H' σ', Ext ρ H ρ' H' → RSt K L ρ' S H' → REn K L H' ρ' env σ' → Dn.ct σ' H'
  | .rt d S => ∀ ρ' H' v, Ext ρ H ρ' H' → RSt K L ρ' S H' → RV K H' ρ' d v → Dn.rt v H'
  | .ex x env S => ∀ ρ' H' σ' c dd, Ext ρ H ρ' H' → RSt K L ρ' S H' → REn K L H' ρ' env σ' → RX K L H' ρ' x c dd → W c dd σ' H'
  | .bad => False
def tS (W : WX) (f : Fs) : TS := fun Dn σ H => ∃ ρ env S, RSt K L ρ S H ∧ REn K L H ρ env σ ∧ Gs K L W ρ H (f env S) Dn
end
abbrev MS (L : Ly) (X : Cx) (W : WX) (st : Stmt) (f : Fs) : Prop := PS X st (tS X.K L W f)
abbrev MSs (L : Ly) (X : Cx) (W : WX) (st : List Stmt) (f : Fs) : Prop := PSs X st (tS X.K L W f)
def Os.seq (o : Os) (k : En → Sto → Os) : Os := match o with
  | .nx env S => k env S
  | o => o
@[simp] theorem Os.seq_nx (env : En) (S : Sto) (k : En → Sto → Os) : (Os.nx env S).seq k = k env S := rfl
@[simp] theorem Os.seq_rt (d : D) (S : Sto) (k : En → Sto → Os) : (Os.rt d S).seq k = .rt d S := rfl
@[simp] theorem Os.seq_bk (env : En) (S : Sto) (k : En → Sto → Os) : (Os.bk env S).seq k = .bk env S := rfl
@[simp] theorem Os.seq_ct (env : En) (S : Sto) (k : En → Sto → Os) : (Os.ct env S).seq k = .ct env S := rfl
@[simp] theorem Os.seq_ex (x : Xc) (env : En) (S : Sto) (k : En → Sto → Os) : (Os.ex x env S).seq k = .ex x env S := rfl
@[simp] theorem Os.seq_bad (k : En → Sto → Os) : (Os.bad).seq k = .bad := rfl
/-- an expression, then a statement's end -/
def Ou.thn {α : Type} (o : Ou α) (env : En) (k : α → Sto → Os) : Os := match o with
  | .ok a S => k a S
  | .ex x S => .ex x env S
  | .bad => .bad
@[simp] theorem Ou.thn_ok {α : Type} (a : α) (S : Sto) (env : En) (k : α → Sto → Os) : (Ou.ok a S).thn env k = k a S := rfl
@[simp] theorem Ou.thn_ex {α : Type} (x : Xc) (S : Sto) (env : En) (k : α → Sto → Os) : (Ou.ex x S : Ou α).thn env k = .ex x env S := rfl
@[simp] theorem Ou.thn_bad {α : Type} (env : En) (k : α → Sto → Os) : (Ou.bad : Ou α).thn env k = .bad := rfl
section
variable {K : PySem.W.Frag} {L : Ly} {W : WX} {ρ : List Addr} {H : Hp} {Dn : Ends}
theorem Gs.mono {ρ1 : List Addr} {H1 : Hp} {o : Os} (e : Ext ρ H ρ1 H1) (h : Gs K L W ρ H o Dn) : Gs K L W ρ1 H1 o Dn := by
  cases o with
  | nx env S => exact fun ρ' H' σ' e' => h ρ' H' σ' (e.trans e')
  | bk env S => exact fun ρ' H' σ' e' => h ρ' H' σ' (e.trans e')
  | ct env S => exact fun ρ' H' σ' e' => h ρ' H' σ' (e.trans e')
  | rt d S => exact fun ρ' H' v e' => h ρ' H' v (e.trans e')
  | ex x env S => exact fun ρ' H' σ' c d e' => h ρ' H' σ' c d (e.trans e')
  | bad => exact h
theorem Gs.nx {env : En} {S : Sto} {σ : L2.St} (h : Gs K L W ρ H (.nx env S) Dn) (rs : RSt K L ρ S H) (re : REn K L H ρ env σ) : Dn.nx σ H := h ρ H σ (.refl _ _) rs re
/-- an expression's reading within a statement -/
theorem tS.thn {α β : Type} {R : Hp → List Addr → α → β → Prop} {f : Fx α} {k : α → En → Sto → Os} {σ : L2.St} (h : tS K L W (fun env S => (f env S).thn env fun x S1 => k x env S1) Dn σ H) :
    tG K L R W f σ H fun v H1 => ∃ ρ1 env S1 x, RSt K L ρ1 S1 H1 ∧ REn K L H1 ρ1 env σ ∧ R H1 ρ1 x v ∧ Gs K L W ρ1 H1 (k x env S1) Dn := by
  obtain ⟨ρ, env, S, rs, re, g⟩ := h
  refine ⟨ρ, env, S, rs, re, ?_⟩
  cases e : f env S with
  | ok d S1 =>
    simp only [e, Ou.thn_ok] at g
    exact fun ρ' H' v e r rv => ⟨ρ', env, S1, d, r, re.ext e, rv, g.mono e⟩
  | ex x S1 =>
    simp only [e, Ou.thn_ex] at g
    exact fun ρ' H' c dd e r rx => g ρ' H' σ c dd e r (re.ext e) rx
  | bad =>
    simp only [e, Ou.thn_bad] at g
    exact g
end
def sSeq (f g : Fs) : Fs := fun env S => (f env S).seq g
def sNx : Fs := fun env S => .nx env S
def sBk : Fs := fun env S => .bk env S
def sCt : Fs := fun env S => .ct env S
def sBad : Fs := fun _ _ => .bad
def sSet (i : Nat) (f : Fx D) : Fs := fun env S => (f env S).thn env fun d S1 => .nx (env.set i (some d)) S1
def sDrop (f : Fx D) : Fs := fun env S => (f env S).thn env fun _ S1 => .nx env S1
def sRet (f : Fx D) : Fs := fun env S => (f env S).thn env fun d S1 => .rt d S1
def sRetN : Fs := fun _ S => .rt .non S
def sIf (c : Fx Bool) (f g : Fs) : Fs := fun env S => (c env S).thn env fun b S1 => if b = true then f env S1 else g env S1
section
variable {L : Ly} {X : Cx} {W : WX} {st : Stmt} {rest a b : List Stmt} {e c : Expr} {f g : Fs} {fe : Fx D} {fc : Fx Bool} {pos pos' : Pos}
theorem mss_nil : MSs L X W [] sNx := pssI pss_nil fun Dn σ H ⟨ρ, env, S, rs, re, g⟩ => g.nx rs re
theorem mss_cons (h1 : MS L X W st f) (h2 : MSs L X W rest g) : MSs L X W (st :: rest) (sSeq f g) :=
  pssI (pss_cons h1 h2) fun Dn σ H ⟨ρ, env, S, rs, re, q⟩ => ⟨ρ, env, S, rs, re, by
    unfold sSeq at q
    cases e : f env S with
    | nx env1 S1 =>
      rw [e] at q
      exact fun ρ' H' σ' e' r re' => ⟨ρ', env1, S1, r, re', q.mono e'⟩
    | _ => rw [e] at q; exact q⟩
theorem mss_one (h1 : MS L X W st f) : MSs L X W [st] f := pss_one h1
theorem ms_pass : MS L X W (.Pass pos) sNx := psI ps_pass fun Dn σ H ⟨ρ, env, S, rs, re, g⟩ => g.nx rs re
theorem ms_break : MS L X W (.Break pos) sBk := psI ps_break fun Dn σ H ⟨ρ, env, S, rs, re, g⟩ => g ρ H σ (.refl _ _) rs re
theorem ms_cont : MS L X W (.Continue pos) sCt := psI ps_continue fun Dn σ H ⟨ρ, env, S, rs, re, g⟩ => g ρ H σ (.refl _ _) rs re
theorem ms_bad : MS L X W st sBad := psI ps_never fun Dn σ H ⟨ρ, env, S, rs, re, g⟩ => g.elim
theorem ms_expr (he : ME L X W e fe) (hs : swapsWith e none pos.line X.env = pure false := by rfl) : MS L X W (.Expr e pos) (sDrop fe) :=
  psI (ps_expr he hs) fun Dn σ H h => (tS.thn h).imp fun v H1 ⟨ρ1, env, S1, x, rs, re, rv, g1⟩ => g1.nx rs re
theorem ms_ret (he : ME L X W e fe) : MS L X W (.Return (some e) pos) (sRet fe) :=
  psI (ps_ret he) fun Dn σ H h => (tS.thn h).imp fun v H1 ⟨ρ1, env, S1, x, rs, re, rv, g1⟩ => g1 ρ1 H1 v (.refl _ _) rs rv
theorem ms_retN : MS L X W (.Return none pos) sRetN := psI ps_retN fun Dn σ H ⟨ρ, env, S, rs, re, g⟩ => g ρ H _ (.refl _ _) rs .non
theorem ms_set (i : Nat) {x : Str} (hN : X.N.Nodup) (hi : X.N[i]? = some x) (hx : Loc X.env.scope x) (he : ME L X W e fe) (hs : swapsWith e (some (.Name x pos')) pos.line X.env = pure false := by rfl) (hf : X.fn x = true ∨ X.env.scope.names.lookup x = some .local := by first | exact .inl rfl | exact .inr rfl | assumption) :
    MS L X W (.Assign [.Name x pos'] e pos) (sSet i fe) :=
  psI (ps_set hN hi hx he hs hf) fun Dn σ H h => (tS.thn h).imp fun v H1 ⟨ρ1, env, S1, x, rs, re, rv, g1⟩ => g1.nx rs (re.set i rv)
theorem ms_if (hc : MT L X W c fc) (ha : MSs L X W a f) (hb : MSs L X W b g) : MS L X W (.If c a b pos) (sIf fc f g) :=
  psI (ps_if hc ha hb) fun Dn σ H h => (tS.thn h).imp fun v H1 ⟨ρ1, env, S1, x, rs, re, rv, g1⟩ => by
    have rv' : x = v := rv
    subst rv'
    cases x with
    | true => exact iteT ⟨ρ1, env, S1, rs, re, g1⟩
    | false => exact iteF ⟨ρ1, env, S1, rs, re, g1⟩
end

/-! ### tests -/
def tNotF (f : Fx Bool) : Fx Bool := bnd f fun b => fun _ S => .ok (!b) S
def tAndF (f g : Fx Bool) : Fx Bool := bnd f fun b => if b = true then g else fun _ S => .ok false S
def tOrF (f g : Fx Bool) : Fx Bool := bnd f fun b => if b = true then (fun _ S => .ok true S) else g
section
variable {L : Ly} {X : Cx} {W : WX} {a b : Expr} {rest : List Expr} {f g : Fx Bool} {fe : Fx D} {pos : Pos}
theorem mt_val (h : ME L X W a fe) (he : ∀ whole, isTrue a X.env whole = (do let v ← whole; standAt a.pos; holding [v] (truthy v)) := by intro _; rfl) : MT L X W a (tsB fe) :=
  ptI (pt_val h he) fun σ H Q h => tsb h
theorem mt_not (ha : MT L X W a f) : MT L X W (.UnaryOp .Not a pos) (tNotF f) :=
  ptI (pt_not ha) fun σ H Q h => (tG.bind h).imp fun v H1 ⟨ρ1, env, S1, x, rs, re, rv, g1⟩ => by
    have rv' : x = v := rv
    subst rv'
    exact g1.ok rs rfl
theorem mw_and1 (ha : MT L X W a f) : MW L X W (.BoolOp .And [a] pos) f := pw_and1 ha
theorem mw_or1 (ha : MT L X W a f) : MW L X W (.BoolOp .Or [a] pos) f := pw_or1 ha
theorem mw_and (ha : MT L X W a f) (hb : MW L X W (.BoolOp .And (b :: rest) pos) g) : MW L X W (.BoolOp .And (a :: b :: rest) pos) (tAndF f g) :=
  pwI (pw_and ha hb) fun σ H Q h => (tG.bind h).imp fun v H1 ⟨ρ1, env, S1, x, rs, re, rv, g1⟩ => by
    have rv' : x = v := rv
    subst rv'
    cases x with
    | true => exact iteT ⟨ρ1, env, S1, rs, re, g1⟩
    | false => exact iteF (g1.ok rs rfl)
theorem mw_or (ha : MT L X W a f) (hb : MW L X W (.BoolOp .Or (b :: rest) pos) g) : MW L X W (.BoolOp .Or (a :: b :: rest) pos) (tOrF f g) :=
  pwI (pw_or ha hb) fun σ H Q h => (tG.bind h).imp fun v H1 ⟨ρ1, env, S1, x, rs, re, rv, g1⟩ => by
    have rv' : x = v := rv
    subst rv'
    cases x with
    | true => exact iteT (g1.ok rs rfl)
    | false => exact iteF ⟨ρ1, env, S1, rs, re, g1⟩
theorem mt_w (h : MW L X W a f) : MT L X W a f := h.pt
/-- .. as values -/
def eB (f : Fx Bool) : Fx D := bnd f fun b => fun _ S => .ok (.bl b) S
def eAnd (f g : Fx D) : Fx D := bnd f fun d => match d with
  | .bl true => g
  | .bl false => fun _ S => .ok (.bl false) S
  | _ => fun _ _ => .bad
def eOr (f g : Fx D) : Fx D := bnd f fun d => match d with
  | .bl false => g
  | .bl true => fun _ S => .ok (.bl true) S
  | _ => fun _ _ => .bad
def vNot : D → Sto → Ou D
  | .bl b, S => .ok (.bl (!b)) S
  | _, _ => .bad
def eIf (c : Fx Bool) (f g : Fx D) : Fx D := bnd c fun b => if b = true then f else g
variable {c : Expr} {fa fb : Fx D}
theorem me_one {op : BoolOp} (h : ME L X W a fa) : ME L X W (.BoolOp op [a] pos) fa := pe_one h
theorem me_and (ha : ME L X W a fa) (hb : ME L X W (.BoolOp .And (b :: rest) pos) fb) : ME L X W (.BoolOp .And (a :: b :: rest) pos) (eAnd fa fb) :=
  peI (pe_and ha hb) fun σ H Q h => (tG.bind h).imp fun v H1 ⟨ρ1, env, S1, x, rs, re, rv, g1⟩ => by
    cases rv with
    | bl k =>
      refine ⟨k, rfl, ?_⟩
      cases k with
      | true => exact iteT ⟨ρ1, env, S1, rs, re, g1⟩
      | false => exact iteF (Gd.ok g1 rs (.bl _))
    | _ => exact g1.elim
theorem me_or (ha : ME L X W a fa) (hb : ME L X W (.BoolOp .Or (b :: rest) pos) fb) : ME L X W (.BoolOp .Or (a :: b :: rest) pos) (eOr fa fb) :=
  peI (pe_or ha hb) fun σ H Q h => (tG.bind h).imp fun v H1 ⟨ρ1, env, S1, x, rs, re, rv, g1⟩ => by
    cases rv with
    | bl k =>
      refine ⟨k, rfl, ?_⟩
      cases k with
      | true => exact iteT (Gd.ok g1 rs (.bl _))
      | false => exact iteF ⟨ρ1, env, S1, rs, re, g1⟩
    | _ => exact g1.elim
theorem me_not (ha : ME L X W a fa) : ME L X W (.UnaryOp .Not a pos) (op1 vNot fa) :=
  peI (pe_not ha) fun σ H Q h => (one h).imp fun v H1 ⟨Wh, ρ, S, d, rs, rv, g⟩ => by
    cases rv <;> first | exact g.elim | skip
    exact ⟨_, rfl, Gd.ok g rs (.bl _)⟩
theorem me_if (hc : MT L X W c f) (ha : ME L X W a fa) (hb : ME L X W b fb) : ME L X W (.IfExp c a b pos) (eIf f fa fb) :=
  peI (pe_ifExp hc ha hb) fun σ H Q h => (tG.bind h).imp fun v H1 ⟨ρ1, env, S1, x, rs, re, rv, g1⟩ => by
    have rv' : x = v := rv
    subst rv'
    cases x with
    | true => exact iteT ⟨ρ1, env, S1, rs, re, g1⟩
    | false => exact iteF ⟨ρ1, env, S1, rs, re, g1⟩
end
end Mi

set_option Elab.async false
set_option linter.all false
set_option maxRecDepth 100000
set_option maxHeartbeats 2000000
set_option autoImplicit false
/-! Mi6: calls, loops, stores -/
namespace Mi
open PySem PySem.Spec L2 PyProof.Rows

abbrev Fn := List D → Sto → Ou D
/-! ### defs -/
def spM (K : PySem.W.Frag) (L : Ly) (n : Nat) (F : Fn) : Sp := fun vs H Q E => vs.length = n ∧ ∃ ρ S ds, RSt K L ρ S H ∧ RVs K H ρ ds vs ∧ Gd K L (fun H ρ => RV K H ρ) (fun c d H => E c d H) ρ H (F ds S) Q
def fnM (N n : Nat) (body : Fs) : Fn := fun args S => if args.length = n then match body (args.map some ++ List.replicate (N - n) none) S with
    | .nx _ S' => .ok .non S'
    | .rt d S' => .ok d S'
    | .ex x _ S' => .ex x S'
    | _ => .bad else .bad
/-- a def of the text that computes F -/
structure FnM (P : Program) (w : World) (K : PySem.W.Frag) (mg : Str → Option Value) (base : Heap) (L : Ly) (k : Nat) (f : Addr) (n : Nat) (F : Fn) : Prop where
  ok : ∃ fd ps, FnOk P w K mg base (L2.CX P w) k f fd ps (spM K L n F) ∧ Binds K fd ps []
theorem REn.start {K : PySem.W.Frag} {L : Ly} (hz : L.zs = none) {H : Hp} {ρ : List Addr} {ds : List D} {vs : List V} (r : RVs K H ρ ds vs) (N : List Str) (m : Nat) (hm : m = N.length - vs.length) : REn K L H ρ (ds.map some ++ List.replicate m none) (L2.start N vs) := by
  unfold L2.start
  subst hm
  refine ⟨by simp [r.length], fun i d h => ?_, fun z e => by rw [hz] at e; cases e⟩
  by_cases hi : i < ds.length
  · rw [List.getElem?_append_left (by simpa using hi), List.getElem?_map] at h
    cases e : ds[i]? with
    | none => rw [e] at h; cases h
    | some d' =>
      rw [e] at h
      have h' : d' = d := by simpa using h
      subst h'
      obtain ⟨v, h1, h2⟩ := r.get e
      refine ⟨v, ?_, h2⟩
      rw [List.getElem?_append_left (by rw [List.length_map, ← r.length]; exact hi), List.getElem?_map, h1]
      rfl
  · rw [List.getElem?_append_right (by simpa using hi), List.getElem?_replicate] at h
    split at h <;> cases h
section
variable {P : Program} {w : World} {K : PySem.W.Frag} {mg : Str → Option Value} {base : Heap} {L : Ly}
/-- the context of a def's body -/
abbrev bodyCx (P : Program) (w : World) (K : PySem.W.Frag) (mg : Str → Option Value) (base : Heap) (N : List Str) (qual : Str) (st : Stmt) (f : Addr) (cdv : Value) (A : Around) (outer : List Env) (s : Shared) (H : Hp) (E : XK) : Cx :=
  cxOf (L2.CX P w) P w K mg base N qual (defScope st) f cdv A outer s H E
abbrev wE (E : XK) : WX := fun c d _ H => E c d H
theorem fn_okX (hz : L.zs = none) {x qual : Str} {st : Stmt} {f : Addr} {fd : FuncData} {N ps : List Str} {k n m : Nat} {body : Fs} (F : L2.Fun K x qual st f fd) (sc : FnScope N ps (defScope st)) (b : Binds K fd ps []) (hn : ps.length = n) (hm : N.length = m)
    (h : ∀ (cdv : Value) (A : Around) (outer : List Env) (s : Shared) (H : Hp) (E : XK), Room k (bodyCx P w K mg base N qual st f cdv A outer s H E).A → Takes (bodyCx P w K mg base N qual st f cdv A outer s H E) (wE E) →
      PassesOwn (model P w) (bodyCx P w K mg base N qual st f cdv A outer s H E).A (bodyCx P w K mg base N qual st f cdv A outer s H E).env (bodyCx P w K mg base N qual st f cdv A outer s H E).xe →
      MSs L (bodyCx P w K mg base N qual st f cdv A outer s H E) (wE E) (defBody st) body) : FnOk P w K mg base (L2.CX P w) (k + 1) f fd ps (spM K L n (fnM m n body)) := by
  refine F.okX sc (fun vs H Q E q => by rw [hn]; exact q.1) (fun cdv A outer s H vs Q E hr q => ?_)
  refine ⟨_, h cdv A outer s H E hr (takes_of rfl rfl rfl rfl) (passes_of rfl), ?_⟩
  obtain ⟨hl, ρ, S, ds, rs, rv, g⟩ := q
  refine ⟨ρ, _, S, rs, REn.start hz rv N (m - n) (by rw [hm, hl]), ?_⟩
  have hd : ds.length = n := rv.length.trans hl
  unfold fnM at g
  rw [if_pos hd] at g
  cases e : body (ds.map some ++ List.replicate (m - n) none) S with
  | nx env S' =>
    rw [e] at g
    exact fun ρ' H' σ' e' r _ => g ρ' H' _ e' r .non
  | rt d S' =>
    rw [e] at g
    exact fun ρ' H' v e' r rv' => g ρ' H' v e' r rv'
  | ex x env S' =>
    rw [e] at g
    exact fun ρ' H' σ' c dd e' r _ rx => g ρ' H' c dd e' r rx
  | _ => rw [e] at g; exact g.elim
theorem fn_ok (hz : L.zs = none) {x qual : Str} {st : Stmt} {f : Addr} {fd : FuncData} {N ps : List Str} {k n m : Nat} {body : Fs} (F : L2.Fun K x qual st f fd) (sc : FnScope N ps (defScope st)) (b : Binds K fd ps []) (hn : ps.length = n) (hm : N.length = m)
    (h : ∀ (cdv : Value) (A : Around) (outer : List Env) (s : Shared) (H : Hp) (E : XK), Room k (bodyCx P w K mg base N qual st f cdv A outer s H E).A → Takes (bodyCx P w K mg base N qual st f cdv A outer s H E) (wE E) →
      PassesOwn (model P w) (bodyCx P w K mg base N qual st f cdv A outer s H E).A (bodyCx P w K mg base N qual st f cdv A outer s H E).env (bodyCx P w K mg base N qual st f cdv A outer s H E).xe →
      MSs L (bodyCx P w K mg base N qual st f cdv A outer s H E) (wE E) (defBody st) body) : FnM P w K mg base L (k + 1) f n (fnM m n body) := ⟨fd, ps, fn_okX hz F sc b hn hm h, b⟩
end

/-! ### calls -/
def vCall (n : Nat) (F : Fn) (xs : List D) (S : Sto) : Ou D := if xs.length = n then F xs S else .bad
def eCall (n : Nat) (F : Fn) (fa : Fx (List D)) : Fx D := opS (vCall n F) fa
/-- a def by its global name -/
structure GlF (X : Cx) (L : Ly) (x : Str) (k n : Nat) (F : Fn) : Prop where
  fn : ∃ f, X.mg x = some (.ref f) ∧ PySem.W.keepIn X.K (.ref f) = true ∧ FnM X.prog X.w X.K X.mg X.base L k f n F
section
variable {L : Ly} {X : Cx} {W : WX} {e o : Expr} {es : List Expr} {fa : Fx (List D)} {fo : Fx D} {x m : Str} {p pos apos : Pos} {k n : Nat} {F : Fn}
theorem Gd.wh {α β : Type} {K : PySem.W.Frag} {R : Hp → List Addr → α → β → Prop} {W1 W2 : Value → Option Addr → Hp → Prop} {ρ : List Addr} {H : Hp} {o : Ou α} {Q : β → Hp → Prop} (h : Gd K L R W1 ρ H o Q) (i : ∀ c d H', W1 c d H' → W2 c d H') : Gd K L R W2 ρ H o Q := by
  cases o with
  | ok d S => exact h
  | ex x S => exact fun ρ' H' c dd e r rx => i _ _ _ (h ρ' H' c dd e r rx)
  | bad => exact h
theorem me_call (G : GlF X L x k n F) (tk : Takes X W) (hr : Room k X.A) (hg : Gl X x) (ha : MA L X W (e :: es) fa) (hdb : (x == ("__debug__" : Str)) = false := by decide)
    (he : starEach (e :: es) X.env = (false, eval e X.env) :: starEach es X.env := by rfl) (hpl : (backTo pos (starEach es X.env)).any (·.1) = false := by rfl) : ME L X W (.Call (.Name x p) (e :: es) [] pos) (eCall n F fa) := by
  obtain ⟨f, hm, hk, fd, ps, G, b⟩ := G.fn
  refine peI (pe_callS (E := WE W) G hr hg hm hk b (fun σ => passAt tk σ) ha hdb he hpl) fun σ H Q h => (tG.bind h).imp fun vs H1 ⟨ρ1, env, S1, xs, rs, re, rv, g1⟩ => ?_
  obtain ⟨hl, g1⟩ := Gd.ifp g1
  exact ⟨by rw [← rv.length]; exact hl, ρ1, S1, xs, rs, rv, g1⟩
theorem me_call0 (G : GlF X L x k 0 F) (tk : Takes X W) (hr : Room k X.A) (hg : Gl X x) (hdb : (x == ("__debug__" : Str)) = false := by decide) : ME L X W (.Call (.Name x p) [] [] pos) (fun _ S => F [] S) := by
  obtain ⟨f, hm, hk, fd, ps, G, b⟩ := G.fn
  refine ⟨fun pins s σ H Q I ⟨ρ, env, S, rs, re, g⟩ => wpAny_Call_Name_kw (ld_glob I hg hm (PySem.W.callWith_K0 I.kIn hk (run_fnS (us := []) (E := WE W) G hr b (passAt tk σ) I .nil ⟨rfl, ρ, S, [], rs, .nil, g⟩)) hdb)⟩
/-- own methods by the receiver's class -/
structure MtOk (X : Cx) (L : Ly) (m : Str) (k : Nat) (tbl : List (Nat × Nat × Fn)) : Prop where
  ok : ∀ c n F, tbl.lookup c = some (n, F) → Cls X.K (L.ct c) ∧ m ∉ L.fn c ∧ ∃ f, Meth X.K (L.ct c) m f ∧ FnM X.prog X.w X.K X.mg X.base L k f (n + 1) F
def eMth (tbl : List (Nat × Nat × Fn)) (fo : Fx D) (fa : Fx (List D)) : Fx D := bnd fo fun x => fun env S => match insAt S x with
  | some (_, c, _) => match tbl.lookup c with
    | some (n, F) => bnd fa (fun xs => fun _ S' => if xs.length = n then F (x :: xs) S' else .bad) env S
    | none => .bad
  | none => .bad
theorem RFs.none {K : PySem.W.Frag} {H : Hp} {ρ : List Addr} {ns : List Str} {fs : List (Option D)} {fx : List (Str × V)} (r : RFs K H ρ ns fs fx) {m : Str} (h : m ∉ ns) : fx.lookup m = Option.none := by
  cases e : fx.lookup m with
  | none => rfl
  | some v =>
    refine absurd (r.sub m ?_) h
    have q := PySem.mem_of_lookup e
    exact List.mem_map.mpr ⟨_, q, rfl⟩
theorem mth_in {tbl : List (Nat × Nat × Fn)} {env : En} {S : Sto} {d : D} {K : PySem.W.Frag} {Wh : Value → Option Addr → Hp → Prop} {ρ : List Addr} {H : Hp} {Q : VK} (g : Gd K L (fun H ρ => RV K H ρ) Wh ρ H (match insAt S d with
    | some (_, c, _) => match tbl.lookup c with
      | some (n, F) => bnd fa (fun xs => fun _ S' => if xs.length = n then F (d :: xs) S' else .bad) env S
      | none => .bad
    | none => .bad) Q) : ∃ i c fs n F, insAt S d = some (i, c, fs) ∧ tbl.lookup c = some (n, F) ∧ Gd K L (fun H ρ => RV K H ρ) Wh ρ H (bnd fa (fun xs => fun _ S' => if xs.length = n then F (d :: xs) S' else .bad) env S) Q := by
  cases e1 : insAt S d with
  | none => rw [e1] at g; exact g.elim
  | some q =>
    obtain ⟨i, c, fs⟩ := q
    rw [e1] at g
    simp only at g
    cases e2 : tbl.lookup c with
    | none => rw [e2] at g; exact g.elim
    | some nF =>
      obtain ⟨n, F⟩ := nF
      rw [e2] at g
      exact ⟨i, c, fs, n, F, rfl, e2, g⟩
theorem me_meth {tbl : List (Nat × Nat × Fn)} {pl : Sem Bool} (G : MtOk X L m k tbl) (tk : Takes X W) (hr : Room k X.A) (he : ME L X W o fo) (ha : MA L X W (e :: es) fa)
    (hst : starEach (e :: es) X.env = (false, eval e X.env) :: starEach es X.env := by rfl) (hpl : (backTo pos (starEach es X.env)).any (·.1) = false := by rfl)
    (ht : eval (.Call (.Attribute o m apos) (e :: es) [] pos) X.env = (eval o X.env >>= fun ov => standAt apos.atName >>= fun _ => holding [ov] (getMethod ov m pl) >>= fun fx =>
      callWith pos fx.1 fx.2 (backTo pos (starEach (e :: es) X.env)) (backToKw pos (keywordEach [] X.env))) := by rfl) : ME L X W (.Call (.Attribute o m apos) (e :: es) [] pos) (eMth tbl fo fa) := by
  refine ⟨fun pins s σ H Q I h => ?_⟩
  refine PySem.W.methodCall_KW (pl := pl) (thn (he.run pins s σ H _ I (tG.bind h)) fun u s1 ⟨x, H1, I1, rx, ρ1, env, S1, d, rs, re, rv, g⟩ => ?_) ht
  obtain ⟨i, c, fs, n, F, e1, e2, g⟩ := mth_in g
  obtain ⟨a, dx, fx, rfl, hra, hH, r⟩ := ins_of rs rv e1
  obtain ⟨t1, t2, f, t3, fd, ps, G, b⟩ := G.ok c n F e2
  obtain rfl : u = Value.ref a := rx
  refine getmeth_ok I1 hH t1 t3 (r.none t2) ?_
  refine PySem.W.callWith_K (first := [.ref a]) (h₀ := X.base) I.ok.mod.kin t3.kp (thn (ha.run pos pins s1 σ H1 _ I1 ⟨ρ1, env, S1, rs, re, Gd.bind (R := fun H ρ => RVs X.K H ρ) (o := fa env S1) g⟩) fun us s2 ⟨vs, H2, I2, r2, ρ2, S2, xs, ex, rs2, rxs, g2⟩ => ⟨I2.kIn, ?_⟩) hst hpl
  obtain ⟨hl, g2⟩ := Gd.ifp g2
  exact run_fnS (us := .ref a :: us) (vs := .ref a :: vs) (E := WE W) G hr b (passAt tk σ) I2 (.cons rfl r2) ⟨by simp [← rxs.length, hl], ρ2, S2, d :: xs, rs2, .cons (rv.ext ex) rxs, g2⟩
theorem me_meth0 {tbl : List (Nat × Nat × Fn)} {pl : Sem Bool} (G : MtOk X L m k tbl) (tk : Takes X W) (hr : Room k X.A) (he : ME L X W o fo)
    (ht : eval (.Call (.Attribute o m apos) [] [] pos) X.env = (eval o X.env >>= fun ov => standAt apos.atName >>= fun _ => holding [ov] (getMethod ov m pl) >>= fun fx =>
      callWith pos fx.1 fx.2 (backTo pos (starEach [] X.env)) (backToKw pos (keywordEach [] X.env))) := by rfl) : ME L X W (.Call (.Attribute o m apos) [] [] pos) (eMth tbl fo aN) := by
  refine ⟨fun pins s σ H Q I h => ?_⟩
  refine PySem.W.methodCall_KW (pl := pl) (thn (he.run pins s σ H _ I (tG.bind h)) fun u s1 ⟨x, H1, I1, rx, ρ1, env, S1, d, rs, re, rv, g⟩ => ?_) ht
  obtain ⟨i, c, fs, n, F, e1, e2, g⟩ := mth_in g
  obtain ⟨a, dx, fx, rfl, hra, hH, r⟩ := ins_of rs rv e1
  obtain ⟨t1, t2, f, t3, fd, ps, G, b⟩ := G.ok c n F e2
  obtain rfl : u = Value.ref a := rx
  refine getmeth_ok I1 hH t1 t3 (r.none t2) ?_
  obtain ⟨hl, g⟩ := Gd.ifp g
  exact PySem.W.callWith_K0 (first := [.ref a]) I1.kIn t3.kp (run_fnS (us := [.ref a]) (vs := [.ref a]) (E := WE W) G hr b (passAt tk σ) I1 (.cons rfl .nil) ⟨by simp at hl; simp [hl], ρ1, S1, [d], rs, .cons rv .nil, g⟩)

/-! ### C(..) -/
structure MkOk (X : Cx) (L : Ly) (x : Str) (k c nf n : Nat) (F : Fn) : Prop where
  mg : X.mg x = some (.ref (L.ct c))
  few : (L.fn c).length = nf ∧ nf ≤ 64 ∧ (L.fn c).Nodup
  mak : ∃ f, Mk X.K (L.ct c) f ∧ FnM X.prog X.w X.K X.mg X.base L k f (n + 1) F
def vMake (c nf n : Nat) (F : Fn) (xs : List D) (S : Sto) : Ou D := if xs.length = n then
    (F (.ref S.length :: xs) (S ++ [.ins c (List.replicate nf none)])).bind fun d S' => match d with
      | .non => .ok (.ref S.length) S'
      | _ => .bad else .bad
def eMake (c nf n : Nat) (F : Fn) (fa : Fx (List D)) : Fx D := opS (vMake c nf n F) fa
theorem RSt.made {K : PySem.W.Frag} {ρ : List Addr} {S : Sto} {H : Hp} (rs : RSt K L ρ S H) {a dx : Addr} {c nf : Nat} (ha : H a = none) (hd : H dx = none) (ne : dx ≠ a) (few : (L.fn c).length = nf ∧ nf ≤ 64 ∧ (L.fn c).Nodup) :
    RSt K L (ρ ++ [a]) (S ++ [.ins c (List.replicate nf none)]) (upd (upd H dx (.own a)) a (.ins (L.ct c) dx [])) ∧ Ext ρ H (ρ ++ [a]) (upd (upd H dx (.own a)) a (.ins (L.ct c) dx [])) := by
  have h1 : upd H dx (.own a) a = none := by rw [upd_ne (Ne.symm ne)]; exact ha
  refine ⟨(rs.keep hd).new h1 ⟨dx, [], upd_same, ⟨fun i f hf => ?_, by simp [few.1], few.2.2, List.nodup_nil, fun m hm => absurd hm (by simp), by rw [few.1]; exact few.2.1⟩⟩, (Ext.new0 hd).trans (.new h1 _)⟩
  have e : ((List.replicate nf (none : Option D))[i]?).join = none := by
    rw [List.getElem?_replicate]
    split <;> rfl
  rw [e]
  exact True.intro
theorem run_mk {pins : List (Addr × Obj)} {σ : L2.St} {H : Hp} {s : Shared} {Q : VK} {us : List Value} {vs : List V} {C f : Addr} {fd : FuncData} {ps : List Str} {sp : Sp} (M : Mk X.K C f) (G : FnOk X.prog X.w X.K X.mg X.base (L2.CX X.prog X.w) k f fd ps sp) (hr : Room (k + 1) X.A) (hb : Binds X.K fd ps [])
    (tk : Takes X W) (I : L2.Inv X pins σ H s) (r : Vals vs us) (h : ∀ a dx, H a = none → H dx = none → dx ≠ a → sp (.ref a :: vs) (upd (upd H dx (.own a)) a (.ins C dx [])) (fun v H2 => v = .non ∧ Q (.ref a) H2) (WE W σ)) :
    wpAny (model X.prog X.w) X.A (call (.ref C) us) (EP X pins σ Q) X.xe s := by
  have hq := h (s.heap.objs.size + 1) s.heap.objs.size (I.hok.fresh (Nat.le_succ _)) (I.hok.fresh (Nat.le_refl _)) (Nat.ne_of_lt (Nat.lt_succ_self _))
  have I2 := Inv.made (C := C) I
  have r2 : Vals (V.ref (s.heap.objs.size + 1) :: vs) (Value.ref (s.heap.objs.size + 1) :: us) := .cons rfl r
  have hl : (Value.ref (s.heap.objs.size + 1) :: us).length = ps.length := by rw [← r2.length]; exact G.len _ _ _ _ hq
  have bb := hb { s with heap := (s.heap.push PySem.W.emptyDict).push (PySem.W.instObj C s.heap.objs.size) } (Value.ref (s.heap.objs.size + 1) :: us) I2.kIn (by rw [List.append_nil]; exact hl)
  rw [List.append_nil] at bb
  refine wpAny_call (make_map (f := f) I.kIn M.makes M.init (beq_iff_eq.mp M.fn) (codeAny_mono (G.run _ X.stack _ _ ⟨_, []⟩ _ _ _ (WE W σ) (hr.make C us []) (I2.env0.make C us []) bb r2 hq) fun r s' hq' => ?_))
  cases r with
  | error e => exact passAt tk σ pins _ _ e s' I2 hq'
  | ok fl =>
    cases fl with
    | ret u =>
      obtain ⟨v, H', I3, rv, ev, q3⟩ := I2.after hq'
      subst ev
      exact ⟨rv, V.ref (s.heap.objs.size + 1), H', I3, rfl, q3⟩
    | _ => exact False.elim hq'
theorem make_g {K : PySem.W.Frag} {ρ : List Addr} {S : Sto} {H : Hp} (rs : RSt K L ρ S H) {Wh : Value → Option Addr → Hp → Prop} {xs : List D} {vs : List V} {c nf : Nat} {Q : VK} (few : (L.fn c).length = nf ∧ nf ≤ 64 ∧ (L.fn c).Nodup) (rv : RVs K H ρ xs vs)
    (g : Gd K L (fun H ρ => RV K H ρ) Wh ρ H (vMake c nf n F xs S) Q) : ∀ a dx, H a = none → H dx = none → dx ≠ a → spM K L (n + 1) F (.ref a :: vs) (upd (upd H dx (.own a)) a (.ins (L.ct c) dx [])) (fun v H2 => v = .non ∧ Q (.ref a) H2) (fun c d H => Wh c d H) := by
  intro a dx ha hd ne
  obtain ⟨hl, g⟩ := Gd.ifp g
  obtain ⟨r1, e1⟩ := rs.made ha hd ne few
  have hS : S.length = ρ.length := rs.len.symm
  refine ⟨by simp [← rv.length, hl], _, _, .ref S.length :: xs, r1, .cons (.ref (by rw [hS]; simp)) (rv.ext e1), ?_⟩
  refine (Gd.bind (R := fun H ρ => RV K H ρ) (g.mono e1)).imp fun v H2 ⟨ρ2, S2, d, e2, rs2, rd, g2⟩ => ?_
  cases rd <;> first | exact g2.elim | skip
  exact ⟨rfl, Gd.ok g2 rs2 (.ref (pre_get e2.pre (by rw [hS]; simp)))⟩
theorem me_make {c nf : Nat} (G : MkOk X L x k c nf n F) (tk : Takes X W) (hr : Room (k + 1) X.A) (hg : Gl X x) (ha : MA L X W (e :: es) fa) (hdb : (x == ("__debug__" : Str)) = false := by decide)
    (he : starEach (e :: es) X.env = (false, eval e X.env) :: starEach es X.env := by rfl) (hpl : (backTo pos (starEach es X.env)).any (·.1) = false := by rfl) : ME L X W (.Call (.Name x p) (e :: es) [] pos) (eMake c nf n F fa) := by
  obtain ⟨hm, few, f, M, fd, ps, G, b⟩ := G
  refine ⟨fun pins s σ H Q I h => ?_⟩
  refine wpAny_Call_Name_kw (ld_glob I hg hm ?_ hdb)
  refine PySem.W.callWith_K (h₀ := X.base) I.ok.mod.kin M.kp (thn (ha.run pos pins s σ H _ I (tG.bind h)) fun us s1 ⟨vs, H1, I1, r, ρ1, env, S1, xs, rs, re, rv, g1⟩ => ⟨I1.kIn, ?_⟩) he hpl
  exact run_mk M G hr b tk I1 r (make_g rs few rv g1)
theorem me_make0 {c nf : Nat} (G : MkOk X L x k c nf 0 F) (tk : Takes X W) (hr : Room (k + 1) X.A) (hg : Gl X x) (hdb : (x == ("__debug__" : Str)) = false := by decide) : ME L X W (.Call (.Name x p) [] [] pos) (eMake c nf 0 F aN) := by
  obtain ⟨hm, few, f, M, fd, ps, G, b⟩ := G
  refine ⟨fun pins s σ H Q I ⟨ρ, env, S, rs, re, g⟩ => ?_⟩
  refine wpAny_Call_Name_kw (ld_glob I hg hm ?_ hdb)
  exact PySem.W.callWith_K0 I.kIn M.kp (run_mk (us := []) M G hr b tk I .nil (make_g rs few .nil g))
end
end Mi

set_option Elab.async false
set_option linter.all false
set_option maxRecDepth 100000
set_option maxHeartbeats 2000000
set_option autoImplicit false
/-! Mi7: loops, stores -/
namespace Mi
open PySem PySem.Spec L2 PyProof.Rows

/-! ### what is walked -/
abbrev Wk := List D × (Sto → Prop)
structure ItOk (K : PySem.W.Frag) (L : Ly) (J : It) (ρ0 : List Addr) (H0 : Hp) (ds : List D) (chk : Sto → Prop) : Prop where
  go : ∀ (i : Nat) (ρ : List Addr) (S : Sto) (H : Hp), Ext ρ0 H0 ρ H → RSt K L ρ S H → chk S → i < ds.length → J.go i H ∧
    ∀ x H', J.yld i H x H' → ∃ d, ds[i]? = some d ∧ Ext ρ H ρ H' ∧ RSt K L ρ S H' ∧ RV K H' ρ d x
  stop : ∀ (i : Nat) (ρ : List Addr) (S : Sto) (H : Hp), Ext ρ0 H0 ρ H → RSt K L ρ S H → chk S → ds.length ≤ i → J.stop i H
def RI (K : PySem.W.Frag) (L : Ly) (H : Hp) (ρ : List Addr) (p : Wk) (J : It) : Prop := ItOk K L J ρ H p.1 p.2
def tI (K : PySem.W.Frag) (L : Ly) (W : WX) (f : Fx Wk) : TI := fun σ H Q => tG K L (fun H ρ => RI K L H ρ) W f σ H Q
abbrev MI (L : Ly) (X : Cx) (W : WX) (tg e : Expr) (f : Fx Wk) : Prop := PI X tg e (tI X.K L W f)
def seqW (d : D) (S : Sto) : Ou Wk := match d with
  | .tup ds => .ok (ds, fun _ => True) S
  | .frl ds => .ok (ds, fun _ => True) S
  | .ref n => match lstAt S n with
    | some ds => .ok (ds, fun S' => S'[n]? = some (.lst ds)) S
    | none => .bad
  | .str x => .ok (x.cps.toList.map fun c => D.str ⟨#[c]⟩, fun _ => True) S
  | _ => .bad
def iSeq (f : Fx D) : Fx Wk := bnd f fun d => fun _ S => seqW d S
def rng1 (xs : List D) (S : Sto) : Ou Wk := match xs with
  | [.int j] => if -4611686018427387904 ≤ j ∧ j < 4611686018427387904 then .ok ((List.range j.toNat).map fun i => D.int (i : Nat), fun _ => True) S else .bad
  | _ => .bad
def rng2 (xs : List D) (S : Sto) : Ou Wk := match xs with
  | [.int i, .int j] => if -4611686018427387904 ≤ i ∧ i < 4611686018427387904 ∧ -4611686018427387904 ≤ j ∧ j < 4611686018427387904 then .ok ((List.range (j - i).toNat).map fun k => D.int (i + (k : Nat)), fun _ => True) S else .bad
  | _ => .bad
def iRange1 (f : Fx (List D)) : Fx Wk := bnd f fun xs => fun _ S => rng1 xs S
def iRange2 (f : Fx (List D)) : Fx Wk := bnd f fun xs => fun _ S => rng2 xs S
section
variable {K : PySem.W.Frag} {L : Ly} {ρ0 : List Addr} {H0 : Hp}
theorem ItOk.list {n : Nat} {a : Addr} {ds : List D} (ha : ρ0[n]? = some a) : ItOk K L (Itl K a) ρ0 H0 ds fun S' => S'[n]? = some (.lst ds) := by
  refine ⟨fun i ρ S H e rs hc hi => ?_, fun i ρ S H e rs hc hi => ?_⟩
  · obtain ⟨xs, h1, h2⟩ := rs.ob _ _ _ hc (pre_get e.pre ha)
    obtain ⟨v, hv, rv⟩ := h2.get (List.getElem?_eq_getElem hi)
    refine ⟨⟨xs, v, .of h1, hv⟩, fun x H' y => ?_⟩
    obtain ⟨e1, y⟩ := y
    subst e1
    have z := y xs (.of h1)
    rw [hv] at z
    cases z
    exact ⟨_, List.getElem?_eq_getElem hi, .refl _ _, rs, rv⟩
  · obtain ⟨xs, h1, h2⟩ := rs.ob _ _ _ hc (pre_get e.pre ha)
    exact ⟨xs, .of h1, by rw [← h2.length]; exact hi⟩
theorem ItOk.tup {a : Addr} {ds : List D} {xs : List V} (h1 : SqT K H0 a xs) (h2 : RVs K H0 ρ0 ds xs) : ItOk K L (Itt K a) ρ0 H0 ds fun _ => True := by
  refine ⟨fun i ρ S H e rs hc hi => ?_, fun i ρ S H e rs hc hi => ?_⟩
  · have f1 := SqT.ext e.hx h1
    obtain ⟨v, hv, rv⟩ := (h2.ext e).get (List.getElem?_eq_getElem hi)
    refine ⟨⟨xs, v, f1, hv⟩, fun x H' y => ?_⟩
    obtain ⟨e1, y⟩ := y
    subst e1
    have z := y xs f1
    rw [hv] at z
    cases z
    exact ⟨_, List.getElem?_eq_getElem hi, .refl _ _, rs, rv⟩
  · exact ⟨xs, SqT.ext e.hx h1, by rw [← h2.length]; exact hi⟩
theorem ItOk.rng {lo : Int} {n : Nat} : ItOk K L (Itr lo n) ρ0 H0 ((List.range n).map fun k => D.int (lo + (k : Nat))) fun _ => True := by
  refine ⟨fun i ρ S H e rs hc hi => ?_, fun i ρ S H e rs hc hi => ?_⟩
  · have hi' : i < n := by simpa using hi
    refine ⟨hi', fun x H' y => ?_⟩
    obtain ⟨e1, y⟩ := y
    subst e1 y
    exact ⟨.int (lo + i), by simp [hi'], .refl _ _, rs, .int _⟩
  · show n ≤ i
    simpa using hi
theorem ItOk.str {x : Str} : ItOk K L (Its x) ρ0 H0 (x.cps.toList.map fun c => D.str ⟨#[c]⟩) fun _ => True := by
  refine ⟨fun i ρ S H e rs hc hi => ?_, fun i ρ S H e rs hc hi => ?_⟩
  · have hi' : i < x.cps.size := by simpa using hi
    refine ⟨hi', fun v H' y => ?_⟩
    obtain ⟨e1, c, y1, y2⟩ := y
    subst e1 y2
    refine ⟨.str ⟨#[c]⟩, ?_, .refl _ _, rs, .str _⟩
    rw [List.getElem?_map, Array.getElem?_toList, y1]
    rfl
  · show x.cps.size ≤ i
    simpa using hi
end
theorem piOr {X : Cx} {tg e : Expr} {t1 t2 t : TI} (h1 : PI X tg e t1) (h2 : PI X tg e t2) (i : ∀ σ H R, t σ H R → t1 σ H R ∨ t2 σ H R) : PI X tg e t := ⟨fun pins s σ H R I q => by
  rcases i σ H R q with q | q
  · exact h1.run pins s σ H R I q
  · exact h2.run pins s σ H R I q⟩
section
variable {L : Ly} {X : Cx} {W : WX} {tg e : Expr} {fe : Fx D} {fa : Fx (List D)} {p pos : Pos}
theorem mi_seq (he : ME L X W e fe) : MI L X W tg e (iSeq fe) := by
  refine piOr (pi_list he) (piOr (pi_tup he) (pi_str he) (t := fun σ H R => iTup X.K (tE X.K L W fe) σ H R ∨ iStr (tE X.K L W fe) σ H R) fun _ _ _ h => h) fun σ H R h => ?_
  obtain ⟨ρ, env, S, rs, re, g⟩ := h
  unfold iSeq bnd at g
  cases ev : fe env S with
  | bad => rw [ev] at g; exact g.elim
  | ex x S' =>
    rw [ev] at g
    exact .inl ⟨ρ, env, S, rs, re, by rw [ev]; exact g⟩
  | ok d S' =>
    rw [ev] at g
    simp only [Ou.bind_ok] at g
    cases d with
    | tup ds =>
      refine .inr (.inl ⟨ρ, env, S, rs, re, ?_⟩)
      rw [ev]
      intro ρ' H' v ex r rv
      cases rv with
      | tup h1 h2 => exact ⟨_, rfl, ⟨_, h1⟩, g ρ' H' _ ex r (ItOk.tup h1 h2)⟩
    | str z =>
      refine .inr (.inr ⟨ρ, env, S, rs, re, ?_⟩)
      rw [ev]
      intro ρ' H' v ex r rv
      cases rv
      exact ⟨_, rfl, g ρ' H' _ ex r ItOk.str⟩
    | frl ds =>
      refine .inl ⟨ρ, env, S, rs, re, ?_⟩
      rw [ev]
      intro ρ' H' v ex r rv
      cases rv with
      | frl h1 h2 =>
        refine ⟨_, rfl, ⟨_, h1.seq⟩, g ρ' H' _ ex r ?_⟩
        refine ⟨fun i ρ S H e rs hc hi => ?_, fun i ρ S H e rs hc hi => ?_⟩
        · have f1 := h1.ext e.hx
          obtain ⟨v, hv, rv⟩ := (h2.ext e).get (List.getElem?_eq_getElem hi)
          refine ⟨⟨_, v, f1.seq, hv⟩, fun x H' y => ?_⟩
          obtain ⟨e1, y⟩ := y
          subst e1
          have z := y _ f1.seq
          rw [hv] at z
          cases z
          exact ⟨_, List.getElem?_eq_getElem hi, .refl _ _, rs, rv⟩
        · exact ⟨_, (h1.ext e.hx).seq, by rw [← h2.length]; exact hi⟩
    | ref n =>
      simp only [seqW] at g
      cases e0 : lstAt S' n with
      | none => rw [e0] at g; exact g.elim
      | some ds =>
        rw [e0] at g
        refine .inl ⟨ρ, env, S, rs, re, ?_⟩
        rw [ev]
        intro ρ' H' v ex r rv
        cases rv with
        | ref ha =>
          obtain ⟨xs, h1, h2⟩ := r.ob _ _ _ (lstAt_some e0) ha
          exact ⟨_, rfl, ⟨xs, .of h1⟩, g ρ' H' _ ex r (ItOk.list ha)⟩
    | _ => exact g.elim
theorem mi_range1 {a : Expr} (hg : Gl X "range") (hm : X.mg "range" = none) (ha : MA L X W [a] fa) (hs : starEach [a] X.env = [(false, eval a X.env)] := by rfl) : MI L X W tg (.Call (.Name "range" p) [a] [] pos) (iRange1 fa) :=
  piI (pi_range1 hg hm ha hs) fun σ H R h => (tG.bind h).imp fun vs H1 ⟨ρ1, env, S1, xs, rs, re, rv, g1⟩ => by
    unfold rng1 at g1
    split at g1
    · rename_i j
      obtain ⟨hl, g1⟩ := Gd.ifp g1
      cases rv with
      | cons r1 r2 =>
        cases r1
        cases r2
        have z : ItOk X.K L (Itr 0 j.toNat) ρ1 H1 ((List.range j.toNat).map fun i => D.int (i : Nat)) fun _ => True := by
          have q := ItOk.rng (K := X.K) (L := L) (ρ0 := ρ1) (H0 := H1) (lo := 0) (n := j.toNat)
          have e : (fun k : Nat => D.int (0 + (k : Int))) = fun k : Nat => D.int (k : Int) := by
            funext k
            rw [Int.zero_add]
          rw [e] at q
          exact q
        exact ⟨j, rfl, by omega, by omega, g1.ok rs z⟩
    · exact g1.elim
theorem mi_range2 {a b : Expr} (hg : Gl X "range") (hm : X.mg "range" = none) (ha : MA L X W [a, b] fa) (hs : starEach [a, b] X.env = [(false, eval a X.env), (false, eval b X.env)] := by rfl) (hs2 : starEach [b] X.env = [(false, eval b X.env)] := by rfl) : MI L X W tg (.Call (.Name "range" p) [a, b] [] pos) (iRange2 fa) :=
  piI (pi_range2 hg hm ha hs hs2) fun σ H R h => (tG.bind h).imp fun vs H1 ⟨ρ1, env, S1, xs, rs, re, rv, g1⟩ => by
    unfold rng2 at g1
    split at g1
    · rename_i i j
      obtain ⟨hl, g1⟩ := Gd.ifp g1
      cases rv with
      | cons r1 r2 =>
        cases r1
        cases r2 with
        | cons r2 r3 =>
          cases r2
          cases r3
          exact ⟨i, j, rfl, by omega, g1.ok rs ItOk.rng⟩
    · exact g1.elim
end

/-! ### targets -/
abbrev Gf := D → En → Sto → Os
section
variable (K : PySem.W.Frag) (L : Ly)
def tGt (gf : Gf) : TG := fun v σ H Q => ∃ ρ env S d, RSt K L ρ S H ∧ REn K L H ρ env σ ∧ RV K H ρ d v ∧ match gf d env S with
  | .nx env' S' => ∀ ρ' H' σ', Ext ρ H ρ' H' → RSt K L ρ' S' H' → REn K L H' ρ' env' σ' → Q σ' H'
  | _ => False
end
abbrev MG (L : Ly) (X : Cx) (tg : Expr) (gf : Gf) : Prop := PG X tg (tGt X.K L gf)
def gN (i : Nat) : Gf := fun d env S => .nx (env.set i (some d)) S
def setAll : List Nat → List D → En → En
  | i :: is, d :: ds, env => setAll is ds (env.set i (some d))
  | _, _, env => env
def gT (is : List Nat) : Gf := fun d env S => match d with
  | .tup ds => if ds.length = is.length then .nx (setAll is ds env) S else .bad
  | _ => .bad
theorem pgI {X : Cx} {e : Expr} {t t' : TG} (h : PG X e t) (i : ∀ v σ H Q, t' v σ H Q → t v σ H Q) : PG X e t' := ⟨fun pins s σ H v u Q I r q => h.run pins s σ H v u Q I r (i v σ H Q q)⟩
section
variable {L : Ly} {X : Cx} {pos : Pos}
theorem mg_name (i : Nat) {x : Str} (hN : X.N.Nodup) (hi : X.N[i]? = some x) (hx : Loc X.env.scope x) (hf : X.fn x = true ∨ X.env.scope.names.lookup x = some .local := by first | exact .inl rfl | exact .inr rfl | assumption) : MG L X (.Name x pos) (gN i) :=
  pgI (pg_name hN hi hx hf) fun v σ H Q ⟨ρ, env, S, d, rs, re, rv, q⟩ => q ρ H _ (.refl _ _) rs (re.set i rv)
/-- names side by side -/
def tGs : List Nat → TGs
  | [] => gNil
  | i :: is => gCons (gName i) (tGs is)
theorem mgs_nil : PGs X [] (tGs []) := pgs_nil
theorem mgs_cons (i : Nat) {is : List Nat} {x : Str} {es : List Expr} (hN : X.N.Nodup) (hi : X.N[i]? = some x) (hx : Loc X.env.scope x) (h : PGs X es (tGs is)) (hf : X.fn x = true ∨ X.env.scope.names.lookup x = some .local := by first | exact .inl rfl | exact .inr rfl | assumption)
    (hs : (assignEach (.Name x pos :: es) X.env).map (·.2) = assign (.Name x pos) X.env :: (assignEach es X.env).map (·.2) := by rfl) : PGs X (.Name x pos :: es) (tGs (i :: is)) := pgs_cons (pg_name hN hi hx hf) h hs
theorem tGs_all {K : PySem.W.Frag} {L : Ly} {ρ : List Addr} {H : Hp} : ∀ (is : List Nat) (ds : List D) (xs : List V) (env : En) (σ : L2.St) (Q : L2.St → Hp → Prop), RVs K H ρ ds xs → REn K L H ρ env σ → ds.length = is.length → (∀ σ', REn K L H ρ (setAll is ds env) σ' → Q σ' H) → tGs is xs σ H Q
  | [], [], _, env, σ, Q, .nil, re, _, q => ⟨rfl, q σ re⟩
  | i :: is, d :: ds, _, env, σ, Q, .cons r1 r2, re, hl, q => ⟨_, _, rfl, tGs_all (L := L) is ds _ _ _ Q r2 (re.set i r1) (by simpa using hl) q⟩
theorem mg_tup (is : List Nat) {es : List Expr} {k : Nat} (hc : X.calm = true) (h : PGs X es (tGs is)) (hn : (assignEach es X.env).length = is.length := by rfl) (hst : (assignEach es X.env).findIdx? (·.1) = none := by rfl) : MG L X (.Tuple es k pos) (gT is) :=
  pgI (pg_tup hc h hn hst) fun v σ H Q ⟨ρ, env, S, d, rs, re, rv, q⟩ => by
    cases rv with
    | @tup ds a xs h1 h2 =>
      simp only [gT] at q
      by_cases hl : ds.length = is.length
      · rw [if_pos hl] at q
        exact ⟨a, xs, rfl, h1, by rw [← h2.length]; exact hl, tGs_all (L := L) is ds xs env σ Q h2 re hl fun σ' re' => q ρ H σ' (.refl _ _) rs re'⟩
      · rw [if_neg hl] at q
        exact q.elim
    | _ => exact q.elim
end

/-! ### for, while -/
open Classical in
noncomputable def forGo (chk : Sto → Prop) (gf : Gf) (body : Fs) : List D → Fs
  | [], env, S => if chk S then .nx env S else .bad
  | d :: ds, env, S => if chk S then match (gf d env S).seq body with
      | .nx env' S' => forGo chk gf body ds env' S'
      | .ct env' S' => forGo chk gf body ds env' S'
      | .bk env' S' => .nx env' S'
      | o => o else .bad
noncomputable def sFor (fi : Fx Wk) (gf : Gf) (body : Fs) : Fs := fun env S => (fi env S).thn env fun p S1 => forGo p.2 gf body p.1 env S1
/-- a target's end is plain -/
def GNx (gf : Gf) : Prop := ∀ d env S, match gf d env S with
  | .nx _ _ => True
  | .bad => True
  | _ => False
theorem gn_name (i : Nat) : GNx (gN i) := fun d env S => True.intro
theorem gn_tup (is : List Nat) : GNx (gT is) := fun d env S => by
  unfold gT
  cases d with
  | tup ds =>
    by_cases h : ds.length = is.length
    · simp only [if_pos h]
    · simp only [if_neg h]
  | _ => exact True.intro
section
variable {L : Ly} {X : Cx} {W : WX} {tg e c : Expr} {bd : List Stmt} {fi : Fx Wk} {gf : Gf} {body : Fs} {fc : Fx Bool} {pos : Pos}
theorem ms_for (po : PassesOwn (model X.prog X.w) X.A X.env X.xe) (hc : X.calm = true) (gn : GNx gf) (hi : MI L X W tg e fi) (hg : MG L X tg gf) (hb : MSs L X W bd body) (hs : ∀ x, foldedSetIterable e X.env x = pure x := by intro _; rfl) :
    MS L X W (.For tg e bd [] pos) (sFor fi gf body) :=
  psI (ps_for po hc hi hg hb hs) fun Dn σ H h => (tS.thn (R := fun H ρ => RI X.K L H ρ) h).imp fun J H1 ⟨ρ1, env1, S1, p, rs1, re1, rJ, g1⟩ => by
    obtain ⟨ds, chk⟩ := p
    have J1 : ItOk X.K L J ρ1 H1 ds chk := rJ
    have g1' : Gs X.K L W ρ1 H1 (forGo chk gf body ds env1 S1) Dn := g1
    refine ⟨fun i m σ H => m = ds.length - i ∧ i ≤ ds.length ∧ ∃ ρ env S, Ext ρ1 H1 ρ H ∧ RSt X.K L ρ S H ∧ REn X.K L H ρ env σ ∧ Gs X.K L W ρ H (forGo chk gf body (ds.drop i) env S) Dn,
      ⟨ds.length, by simp, Nat.zero_le _, ρ1, env1, S1, .refl _ _, rs1, re1, by simpa using g1'⟩, ?_⟩
    rintro i m σ H ⟨rfl, hi, ρ, env, S, ex, rs, re, g⟩
    by_cases hlt : i < ds.length
    · rw [List.drop_eq_getElem_cons hlt] at g
      unfold forGo at g
      by_cases hk : chk S
      · rw [if_pos hk] at g
        obtain ⟨jg, jy⟩ := J1.go i ρ S H ex rs hk hlt
        refine .inr ⟨jg, fun σ' H' => i + 1 ≤ ds.length ∧ ∃ ρ env S, Ext ρ1 H1 ρ H' ∧ RSt X.K L ρ S H' ∧ REn X.K L H' ρ env σ' ∧ Gs X.K L W ρ H' (forGo chk gf body (ds.drop (i + 1)) env S) Dn, fun σ' H' ⟨hn, z⟩ => ⟨ds.length - (i + 1), by omega, rfl, hn, z⟩, fun x H' y => ?_⟩
        obtain ⟨d, hd, e2, rs2, rv⟩ := jy x H' y
        have hd' : ds[i] = d := by
          rw [List.getElem?_eq_getElem hlt] at hd
          exact Option.some.inj hd
        rw [hd'] at g
        refine ⟨ρ, env, S, d, rs2, re.ext e2, rv, ?_⟩
        have gq := gn d env S
        cases eg : gf d env S with
        | nx env' S' =>
          rw [eg] at g
          simp only [Os.seq_nx] at g
          intro ρ3 H3 σ3 e3 rs3 re3
          have e13 := (ex.trans e2).trans e3
          refine ⟨ρ3, env', S', rs3, re3, ?_⟩
          cases eb : body env' S' with
          | nx env4 S4 =>
            rw [eb] at g
            exact fun ρ5 H5 σ5 e5 r5 n5 => ⟨hlt, ρ5, env4, S4, e13.trans e5, r5, n5, g.mono ((e2.trans e3).trans e5)⟩
          | ct env4 S4 =>
            rw [eb] at g
            exact fun ρ5 H5 σ5 e5 r5 n5 => ⟨hlt, ρ5, env4, S4, e13.trans e5, r5, n5, g.mono ((e2.trans e3).trans e5)⟩
          | bk env4 S4 =>
            rw [eb] at g
            exact fun ρ5 H5 σ5 e5 r5 n5 => g ρ5 H5 σ5 ((e2.trans e3).trans e5) r5 n5
          | rt d S4 =>
            rw [eb] at g
            exact fun ρ5 H5 v5 e5 r5 n5 => g ρ5 H5 v5 ((e2.trans e3).trans e5) r5 n5
          | ex x env4 S4 =>
            rw [eb] at g
            exact fun ρ5 H5 σ5 c d e5 r5 n5 x5 => g ρ5 H5 σ5 c d ((e2.trans e3).trans e5) r5 n5 x5
          | bad => rw [eb] at g; exact g.elim
        | bad => rw [eg] at g; exact g.elim
        | _ => rw [eg] at gq; exact gq.elim
      · rw [if_neg hk] at g
        exact g.elim
    · have hi' : ds.length ≤ i := Nat.le_of_not_lt hlt
      rw [List.drop_of_length_le hi'] at g
      unfold forGo at g
      by_cases hk : chk S
      · rw [if_pos hk] at g
        exact .inl ⟨J1.stop i ρ S H ex rs hk hi', g.nx rs re⟩
      · rw [if_neg hk] at g
        exact g.elim
def whGo (c : Fx Bool) (body : Fs) : Nat → Fs
  | 0, _, _ => .bad
  | n + 1, env, S => (c env S).thn env fun b S1 => if b = true then match body env S1 with
      | .nx env' S' => whGo c body n env' S'
      | .ct env' S' => whGo c body n env' S'
      | .bk env' S' => .nx env' S'
      | o => o else .nx env S1
def sWhile (c : Fx Bool) (body : Fs) : Fs := fun env S => whGo c body 100000 env S
theorem ms_while (po : PassesOwn (model X.prog X.w) X.A X.env X.xe) (hc : MT L X W c fc) (hb : MSs L X W bd body) : MS L X W (.While c bd [] pos) (sWhile fc body) :=
  psI (ps_while po hc hb) fun Dn σ H ⟨ρ0, env0, S0, rs0, re0, g0⟩ => by
    refine ⟨fun m σ H => ∃ ρ env S, RSt X.K L ρ S H ∧ REn X.K L H ρ env σ ∧ Gs X.K L W ρ H (whGo fc body m env S) Dn, ⟨100000, ρ0, env0, S0, rs0, re0, g0⟩, ?_⟩
    rintro m σ H ⟨ρ, env, S, rs, re, g⟩
    cases m with
    | zero => exact g.elim
    | succ m =>
      have g' : Gs X.K L W ρ H ((fc env S).thn env fun b S1 => if b = true then match body env S1 with
        | .nx env' S' => whGo fc body m env' S'
        | .ct env' S' => whGo fc body m env' S'
        | .bk env' S' => .nx env' S'
        | o => o else .nx env S1) Dn := g
      have hq : tS X.K L W (fun env S => (fc env S).thn env fun b S1 => if b = true then match body env S1 with
        | .nx env' S' => whGo fc body m env' S'
        | .ct env' S' => whGo fc body m env' S'
        | .bk env' S' => .nx env' S'
        | o => o else .nx env S1) Dn σ H := ⟨ρ, env, S, rs, re, g'⟩
      refine (tS.thn hq).imp fun v H1 ⟨ρ1, env1, S1, b, rs1, re1, rb, g1⟩ => ?_
      have rb' : b = v := rb
      subst rb'
      cases b with
      | false => exact iteF (g1.nx rs1 re1)
      | true =>
        refine iteT ⟨fun σ' H' => ∃ ρ env S, RSt X.K L ρ S H' ∧ REn X.K L H' ρ env σ' ∧ Gs X.K L W ρ H' (whGo fc body m env S) Dn, fun σ' H' z => ⟨m, Nat.lt_succ_self _, z⟩, ρ1, env1, S1, rs1, re1, ?_⟩
        rw [if_pos rfl] at g1
        cases eb : body env1 S1 with
        | nx env4 S4 => rw [eb] at g1; exact fun ρ5 H5 σ5 e5 r5 n5 => ⟨ρ5, env4, S4, r5, n5, g1.mono e5⟩
        | ct env4 S4 => rw [eb] at g1; exact fun ρ5 H5 σ5 e5 r5 n5 => ⟨ρ5, env4, S4, r5, n5, g1.mono e5⟩
        | bk env4 S4 => rw [eb] at g1; exact g1
        | rt d S4 => rw [eb] at g1; exact g1
        | ex x env4 S4 => rw [eb] at g1; exact g1
        | bad => rw [eb] at g1; exact g1.elim
end
end Mi

set_option Elab.async false
set_option linter.all false
set_option maxRecDepth 100000
set_option maxHeartbeats 2000000
set_option autoImplicit false
/-! Mi8: stores, built-in functions and methods -/
namespace Mi
open PySem PySem.Spec L2 PyProof.Rows

/-! ### targets of an assignment -/
/-- value, then any target's store -/
def sAsg (fe : Fx D) (gf : Gf) : Fs := fun env S => (fe env S).thn env fun d S1 => gf d env S1
theorem Gs.thn {α β : Type} {K : PySem.W.Frag} {L : Ly} {W : WX} {ρ : List Addr} {H : Hp} {Dn : Ends} {R : Hp → List Addr → α → β → Prop} {o : Ou α} {env : En} {σ : L2.St} {k : α → Sto → Os} (re : REn K L H ρ env σ) (h : Gs K L W ρ H (o.thn env k) Dn) :
    Gd K L R (WS W σ) ρ H o fun v H1 => ∃ ρ1 S1 x, Ext ρ H ρ1 H1 ∧ RSt K L ρ1 S1 H1 ∧ R H1 ρ1 x v ∧ Gs K L W ρ1 H1 (k x S1) Dn := by
  cases o with
  | ok d S => exact fun ρ' H' v e r rv => ⟨ρ', S, d, e, r, rv, Gs.mono (o := k d S) e h⟩
  | ex x S => exact fun ρ' H' c dd e r rx => h ρ' H' σ c dd e r (re.ext e) rx
  | bad => exact h
section
variable {L : Ly} {X : Cx} {W : WX} {o i e value tg : Expr} {fo fi fe fv : Fx D} {gf : Gf} {f : Str} {pos pos' tpos : Pos} {tbl : List (Nat × Nat)}
theorem ms_asg (gn : GNx gf) (he : ME L X W e fe) (hg : MG L X tg gf) (hs : swapsWithSole [tg] e pos.line X.env = pure false := by rfl) (hw : swappedStores [tg] e X.env = pure none := by rfl)
    (h1 : (assignEach [tg] X.env).map (·.2) = [assign tg X.env] := by rfl) : MS L X W (.Assign [tg] e pos) (sAsg fe gf) :=
  psI (ps_asg he hg hs hw h1) fun Dn σ H h => (tS.thn h).imp fun v H1 ⟨ρ1, env, S1, d, rs, re, rv, g1⟩ => by
    refine ⟨ρ1, env, S1, d, rs, re, rv, ?_⟩
    have gq := gn d env S1
    cases eg : gf d env S1 with
    | nx env' S' => rw [eg] at g1; exact g1
    | bad => rw [eg] at g1; exact g1.elim
    | _ => rw [eg] at gq; exact gq.elim
/-- o.f = e -/
def vFldS (tbl : List (Nat × Nat)) (o y : D) (S : Sto) : Option Sto := match insAt S o with
  | some (n, c, fs) => (tbl.lookup c).map fun i => S.set n (.ins c (fs.set i (some y)))
  | none => none
def ofS (env : En) : Option Sto → Os
  | some S => .nx env S
  | none => .bad
def sFldD (tbl : List (Nat × Nat)) (fo fv : Fx D) : Fs := fun env S => (fv env S).thn env fun y S1 => (fo env S1).thn env fun o S2 => ofS env (vFldS tbl o y S2)
theorem RFs.put {K : PySem.W.Frag} {H : Hp} {ρ : List Addr} {ns : List Str} {fs : List (Option D)} {fx : List (Str × V)} (r : RFs K H ρ ns fs fx) {j : Nat} {f : Str} (hf : ns[j]? = some f) {d : D} {v : V} (rv : RV K H ρ d v) : RFs K H ρ ns (fs.set j (some d)) (putF f v fx) := by
  have key : ∀ fx : List (Str × V), (putF f v fx).map (·.1) = if f ∈ fx.map (·.1) then fx.map (·.1) else fx.map (·.1) ++ [f] := by
    intro fx
    induction fx with
    | nil => simp [putF]
    | cons p t ih =>
      obtain ⟨g, w⟩ := p
      unfold putF
      by_cases hg : g = f
      · subst hg
        simp
      · rw [if_neg hg]
        rw [List.map_cons, ih]
        simp only [List.map_cons, List.mem_cons]
        have hfg : ¬ f = g := fun e => hg e.symm
        by_cases hm : f ∈ t.map (·.1)
        · simp [hm]
        · simp [hm, hfg]
  have hmem : f ∈ ns := List.mem_of_getElem? hf
  refine ⟨fun i g hg => ?_, by simp [r.len], r.nd, ?_, fun m hm => ?_, r.few⟩
  · rw [lookup_putF]
    by_cases e : g = f
    · subst e
      have hij : j = i := nd_ix r.nd hf hg
      subst hij
      rw [if_pos rfl, List.getElem?_set_self (by rw [r.len]; exact (List.getElem?_eq_some_iff.mp hf).1)]
      exact rv
    · rw [if_neg e, List.getElem?_set_ne]
      · exact r.at_ i g hg
      · rintro rfl
        rw [hf] at hg
        exact e (Option.some.inj hg).symm
  · rw [key]
    split
    · exact r.ndx
    · rename_i hn
      rw [List.nodup_append]
      refine ⟨r.ndx, by simp, fun a ha b hb => ?_⟩
      have hb' : b = f := by simpa using hb
      subst hb'
      rintro rfl
      exact hn ha
  · rw [key] at hm
    split at hm
    · exact r.sub m hm
    · rcases List.mem_append.mp hm with h | h
      · exact r.sub m h
      · have : m = f := by simpa using h
        rw [this]
        exact hmem
theorem RFs.lenx {K : PySem.W.Frag} {H : Hp} {ρ : List Addr} {ns : List Str} {fs : List (Option D)} {fx : List (Str × V)} (r : RFs K H ρ ns fs fx) : fx.length < 1000 := by
  have h1 : (fx.map (·.1)).length ≤ ns.length := r.ndx.length_le_of_subset fun x hx => r.sub x hx
  have h2 := r.few
  rw [List.length_map] at h1
  omega
theorem ms_fld (T : FldOk X.K L f tbl) (ho : ME L X W o fo) (hv : ME L X W value fv) (hs : swapsWith value (some (.Attribute o f pos')) pos.line X.env = pure false := by rfl) : MS L X W (.Assign [.Attribute o f pos'] value pos) (sFldD tbl fo fv) :=
  psI (ps_fld ho hv hs) fun Dn σ H h => (tS.thn h).imp fun y H1 ⟨ρ1, env, S1, d, rs, re, rv, g1⟩ =>
    ⟨ρ1, env, S1, rs, re, (Gs.thn (R := fun H ρ => RV X.K H ρ) (o := fo env S1) re g1).imp fun x H2 ⟨ρ2, S2, od, e2, rs2, ro, g2⟩ => by
      unfold vFldS at g2
      cases h1 : insAt S2 od with
      | none => rw [h1] at g2; exact g2.elim
      | some q =>
        obtain ⟨n, c, fs⟩ := q
        rw [h1] at g2
        simp only at g2
        cases h2 : tbl.lookup c with
        | none => rw [h2] at g2; exact g2.elim
        | some j =>
          rw [h2] at g2
          obtain ⟨a, dx, fx, rfl, hra, hH, r⟩ := ins_of rs2 ro h1
          obtain ⟨t1, t2, t3⟩ := T.ok c j h2
          refine ⟨a, _, dx, fx, rfl, hH, t2, t3, r.lenx, ?_⟩
          have ec : Ext ρ2 H2 ρ2 (upd H2 a (.ins (L.ct c) dx (putF f y fx))) := .chg hH True.intro
          exact g2 ρ2 _ σ ec (rs2.set hra ⟨dx, _, upd_same, (r.put t1 (rv.ext e2)).ext ec⟩) ((re.ext e2).ext ec)⟩
/-! o[i] = v -/
def vSetI (o i v : D) (S : Sto) : Option Sto := match o with
  | .ref n => match lstAt S n, i with
    | some xs, .int k => (ixN xs.length k).map fun j => S.set n (.lst (xs.set j v))
    | some _, _ => none
    | none, _ => match dctW S n, keyD i with
      | some kvs, some key => if kvs.length < 16777216 then some (S.set n (.dct (dPut kvs key v))) else none
      | _, _ => none
  | _ => none
def gSub (fo fi : Fx D) : Gf := fun v env S => (fo env S).thn env fun o S1 => (fi env S1).thn env fun i S2 => ofS env (vSetI o i v S2)
def rMset (K : PySem.W.Frag) (L : Ly) : TSet := fun o i v H Q => ∃ ρ S do' di dv, RSt K L ρ S H ∧ RV K H ρ do' o ∧ RV K H ρ di i ∧ RV K H ρ dv v ∧ ∃ S', vSetI do' di dv S = some S' ∧ ∀ H', Ext ρ H ρ H' → RSt K L ρ S' H' → Q H'
theorem setm (hu : X.A.units + 1 < cLine) : PSet X (rMset X.K L) := by
  intro pins s σ H o i v ov iv u Q I ro ri rv ⟨ρ, S, dO, di, dv, rs, hO, hi, hv, S', hS, q⟩
  unfold vSetI at hS
  split at hS
  · rename_i n
    cases hO with
    | @ref _ a ha =>
      cases e0 : lstAt S n with
      | some xs =>
        rw [e0] at hS
        cases hi with
        | int k =>
          obtain ⟨j, hj, hS⟩ := Option.map_eq_some_iff.mp hS
          subst hS
          obtain ⟨ws, a1, a2⟩ := rs.ob _ _ _ (lstAt_some e0) ha
          refine set_list pins s σ H _ _ v ov iv u Q I ro ri rv ⟨a, ws, _, j, rfl, rfl, a1, by rw [← a2.length]; exact hj, ?_⟩
          have ec : Ext ρ H ρ (upd H a (.lst (ws.set j v))) := .chg a1 True.intro
          exact q _ ec (rs.set ha ⟨_, upd_same, (a2.set j hv).ext ec⟩)
        | _ => cases hS
      | none =>
        rw [e0] at hS
        try simp only at hS
        cases e1 : dctW S n with
        | none => rw [e1] at hS; cases hS
        | some kvs =>
          cases e2 : keyD di with
          | none => rw [e1, e2] at hS; cases hS
          | some key =>
            rw [e1, e2] at hS
            try simp only at hS
            split at hS
            · rename_i hl
              cases hS
              obtain ⟨kxs, a1, a2⟩ := dctW_at rs ha e1
              obtain rfl : ov = Value.ref a := ro
              have ei := keyD_kV hi e2
              subst ei
              have ec : Ext ρ H ρ (upd H a (.dK (putK kxs key v))) := .chg a1 True.intro
              exact d_setItem hu I (DPut.k a1 (sz16lt (by rw [← a2.len]; exact hl))) ri rv fun s' I' => ⟨_, I', q _ ec (rs.set ha ⟨_, upd_same, (a2.put key hv).ext ec⟩)⟩
            · cases hS
  · cases hS
theorem ms_sub (hu : X.A.units + 1 < cLine) (ho : ME L X W o fo) (hi : ME L X W i fi) (he : ME L X W value fe) (hs : swapsWithSole [.Subscript o i pos'] value pos.line X.env = pure false := by rfl) (hw : swappedStores [.Subscript o i pos'] value X.env = pure none := by rfl)
    (h1 : (assignEach [.Subscript o i pos'] X.env).map (·.2) = [assign (.Subscript o i pos') X.env] := by rfl)
    (ha : ∀ v, assign (.Subscript o i pos') X.env v = (holding [v] (eval o X.env) >>= fun ov => holding [v, ov] (eval i X.env) >>= fun iv => standAt pos' >>= fun _ => holding [v, ov, iv] (setItem ov iv v) >>= fun _ => release [v, ov, iv] []) := by intro _; rfl) :
    MS L X W (.Assign [.Subscript o i pos'] value pos) (sAsg fe (gSub fo fi)) :=
  psI (ps_asg he (pg_sub ho hi (setm hu) ha) hs hw h1) fun Dn σ H h => (tS.thn h).imp fun v H1 ⟨ρ1, env, S1, d, rs, re, rv, g1⟩ =>
    ⟨ρ1, env, S1, rs, re, (Gs.thn (R := fun H ρ => RV X.K H ρ) (o := fo env S1) re g1).imp fun x H2 ⟨ρ2, S2, od, e2, rs2, ro, g2⟩ =>
      ⟨ρ2, env, S2, rs2, re.ext e2, (Gs.thn (R := fun H ρ => RV X.K H ρ) (o := fi env S2) (re.ext e2) g2).imp fun y H3 ⟨ρ3, S3, id, e3, rs3, ri, g3⟩ => by
        cases e : vSetI od id d S3 with
        | none => rw [e] at g3; exact g3.elim
        | some S' =>
          rw [e] at g3
          exact ⟨ρ3, S3, od, id, d, rs3, ro.ext e3, ri, (rv.ext e2).ext e3, S', e, fun H' ec rs' => g3 ρ3 H' σ ec rs' (((re.ext e2).ext e3).ext ec)⟩⟩⟩
/-! del d[k] -/
def vDelI (o i : D) (S : Sto) : Option Sto := match o with
  | .ref n => match dctW S n, keyD i with
    | some kvs, some key => if (dGet kvs key).isSome = true then some (S.set n (.dct (dDel kvs key))) else none
    | _, _ => none
  | _ => none
def sDel (fo fi : Fx D) : Fs := fun env S => (fo env S).thn env fun o S1 => (fi env S1).thn env fun i S2 => ofS env (vDelI o i S2)
theorem ms_del (ho : ME L X W o fo) (hi : ME L X W i fi) : MS L X W (.Delete [.Subscript o i tpos] pos) (sDel fo fi) :=
  psI (ps_ddel ho hi) fun Dn σ H h => (tS.thn h).imp fun x H1 ⟨ρ1, env, S1, od, rs, re, ro, g1⟩ =>
    ⟨ρ1, env, S1, rs, re, (Gs.thn (R := fun H ρ => RV X.K H ρ) (o := fi env S1) re g1).imp fun y H2 ⟨ρ2, S2, id, e2, rs2, ri, g2⟩ => by
      cases ro with
      | @ref n a ha =>
        simp only [vDelI] at g2
        cases e1 : dctW S2 n with
        | none => rw [e1] at g2; exact g2.elim
        | some kvs =>
          cases e3 : keyD id with
          | none => rw [e1, e3] at g2; exact g2.elim
          | some key =>
            rw [e1, e3] at g2
            simp only at g2
            by_cases hl : (dGet kvs key).isSome = true
            · rw [if_pos hl] at g2
              obtain ⟨kxs, a1, a2⟩ := dctW_at rs2 (pre_get e2.pre ha) e1
              have ec : Ext ρ2 H2 ρ2 (upd H2 a (.dK (dropK kxs key))) := .chg a1 True.intro
              exact ⟨a, kxs, key, rfl, a1, keyD_kV ri e3, by rw [← (a2.get key).isSome]; exact hl, g2 ρ2 _ σ ec (rs2.set (pre_get e2.pre ha) ⟨_, upd_same, (a2.del key).ext ec⟩) ((re.ext e2).ext ec)⟩
            · rw [if_neg hl] at g2
              exact g2.elim
      | _ => exact g2.elim⟩
/-! x op= e -/
def sAug (j : Nat) (g : D → D → Sto → Ou D) (fe : Fx D) : Fs := fun env S => match env[j]? with
  | some (some x) => (fe env S).thn env fun y S1 => (g x y S1).thn env fun z S2 => .nx (env.set j (some z)) S2
  | _ => .bad
def vIadd (x y : D) (S : Sto) : Ou D := match x, y with
    | .int a, .int b => .ok (.int (a + b)) S
    | .str a, .str b => if a.length + b.length ≤ 16777216 then .ok (.str (a ++ b)) S else .bad
    | _, _ => .bad
theorem iom_add : OpM L X (inplaceOp .Add) vIadd := by
  intro pins s σ H x y v u Q I rx ry ⟨Wh, ρ, S, dx, dy, rs, hx, hy, g⟩
  cases hx <;> cases hy <;> first | exact False.elim g | skip
  · exact iop_add pins s σ H _ _ v u Q I rx ry ⟨_, _, rfl, rfl, Gd.ok g rs (.int _)⟩
  · obtain ⟨hl, g⟩ := Gd.ifp g
    exact iop_add_str pins s σ H _ _ v u Q I rx ry ⟨_, _, rfl, rfl, sz16 hl, g.ok rs (.str _)⟩
theorem iom_sub : OpM L X (inplaceOp .Sub) vSub := by
  intro pins s σ H x y v u Q I rx ry ⟨Wh, ρ, S, dx, dy, rs, hx, hy, g⟩
  cases hx <;> cases hy <;> first | exact False.elim g | skip
  exact iop_sub pins s σ H _ _ v u Q I rx ry ⟨_, _, rfl, rfl, g.ok rs (.int _)⟩
theorem ms_aug (j : Nat) {x : Str} {op : Operator} {g : D → D → Sto → Ou D} (ho : OpM L X (inplaceOp op) g) (hN : X.N.Nodup) (hi : X.N[j]? = some x) (hx : Loc X.env.scope x) (he : ME L X W e fe)
    (hf : X.fn x = true ∨ X.env.scope.names.lookup x = some .local := by first | exact .inl rfl | exact .inr rfl | assumption) : MS L X W (.AugAssign (.Name x pos') op e pos) (sAug j g fe) :=
  psI (ps_aug hN hi hx he (show PIp X op (rM2 X.K L g) from ho) hf) fun Dn σ H ⟨ρ, env, S, rs, re, q⟩ => by
    unfold sAug at q
    cases e1 : env[j]? with
    | none => rw [e1] at q; exact q.elim
    | some o =>
      cases o with
      | none => rw [e1] at q; exact q.elim
      | some d =>
        rw [e1] at q
        obtain ⟨v, h1, h2⟩ := re.at_ j d e1
        refine ⟨v, h1, ρ, env, S, rs, re, (Gs.thn (R := fun H ρ => RV X.K H ρ) (o := fe env S) re q).imp fun y H2 ⟨ρ2, S2, yd, e2, rs2, ry, g2⟩ => ?_⟩
        have re2 := re.ext e2
        refine ⟨_, ρ2, S2, d, yd, rs2, h2.ext e2, ry, (Gs.thn (R := fun H ρ => RV X.K H ρ) (o := g d yd S2) re2 g2).imp fun z H3 ⟨ρ3, S3, zd, e3, rs3, rz, g3⟩ => ?_⟩
        exact g3.nx rs3 ((re2.ext e3).set j rz)
end
end Mi

set_option Elab.async false
set_option linter.all false
set_option maxRecDepth 100000
set_option maxHeartbeats 2000000
set_option autoImplicit false
/-! Mi9: built-in functions and methods, comprehensions -/
namespace Mi
open PySem PySem.Spec L2 PyProof.Rows

abbrev CaM (L : Ly) (X : Cx) (f : Value) (g : List D → Sto → Ou D) : Prop := CallR X f (rMs X.K L g)
section
variable {L : Ly} {X : Cx} {W : WX} {e : Expr} {es : List Expr} {fa : Fx (List D)} {x : Str} {p pos : Pos} {id T : String} {g : List D → Sto → Ou D}
theorem me_bi (hc : CaM L X (.builtin id) g) (hg : Gl X x) (hm : X.mg x = none) (hv : bootBuiltins x = some (.builtin id)) (ha : MA L X W (e :: es) fa) (hn : x ≠ "__name__" := by decide) (hdb : (x == ("__debug__" : Str)) = false := by decide)
    (he : starEach (e :: es) X.env = (false, eval e X.env) :: starEach es X.env := by rfl) (hpl : (backTo pos (starEach es X.env)).any (·.1) = false := by rfl) : ME L X W (.Call (.Name x p) (e :: es) [] pos) (opS g fa) :=
  peI (pe_callB hc hg hm hv ha hn hdb he hpl) fun σ H Q h => sev h
theorem me_ty (hc : CaM L X (.type T) g) (hg : Gl X x) (hm : X.mg x = none) (hv : bootBuiltins x = some (.type T)) (ha : MA L X W (e :: es) fa) (hn : x ≠ "__name__" := by decide) (hdb : (x == ("__debug__" : Str)) = false := by decide)
    (he : starEach (e :: es) X.env = (false, eval e X.env) :: starEach es X.env := by rfl) (hpl : (backTo pos (starEach es X.env)).any (·.1) = false := by rfl) : ME L X W (.Call (.Name x p) (e :: es) [] pos) (opS g fa) :=
  peI (pe_callTy hc hg hm hv ha hn hdb he hpl) fun σ H Q h => sev h
end
/-! ### len, abs, int, str, list, tuple, max, min, sum -/
def lenD (S : Sto) : D → Option Nat
  | .tup ds => some ds.length
  | .frl ds => some ds.length
  | .str z => if z.length ≤ 16777216 then some z.length else none
  | .ref n => match S[n]? with
    | some (.lst ds) => some ds.length
    | some (.dct kvs) => some kvs.length
    | some (.lkd kvs) => some kvs.length
    | _ => none
  | _ => none
def vLen : List D → Sto → Ou D
  | [d], S => match lenD S d with
    | some n => .ok (.int n) S
    | none => .bad
  | _, _ => .bad
def vAbs : List D → Sto → Ou D
  | [.int i], S => .ok (.int (if i < 0 then -i else i)) S
  | _, _ => .bad
def vInt : List D → Sto → Ou D
  | [.int i], S => .ok (.int i) S
  | [.bl b], S => .ok (.int (if b then 1 else 0)) S
  | _, _ => .bad
def vStr : List D → Sto → Ou D
  | [.int i], S => if i.natAbs.log2 < 1920 then .ok (.str (Str.ofString (toString i))) S else .bad
  | _, _ => .bad
/-- the items of a list or tuple -/
def seqD (S : Sto) : D → Option (List D)
  | .tup ds => some ds
  | .frl ds => some ds
  | .ref n => lstAt S n
  | _ => none
def vList : List D → Sto → Ou D
  | [d], S => match seqD S d with
    | some ds => .ok (.ref S.length) (S ++ [.lst ds])
    | none => .bad
  | _, _ => .bad
def vTuple : List D → Sto → Ou D
  | [d], S => match seqD S d with
    | some ds => .ok (.tup ds) S
    | none => .bad
  | _, _ => .bad
def vMax2 : List D → Sto → Ou D
  | [.int i, .int j], S => .ok (.int (if j > i then j else i)) S
  | _, _ => .bad
def vMin2 : List D → Sto → Ou D
  | [.int i, .int j], S => .ok (.int (if j < i then j else i)) S
  | _, _ => .bad
def intL : List D → Option (List Int)
  | [] => some []
  | .int i :: ds => (intL ds).map (i :: ·)
  | _ :: _ => none
theorem intL_some : ∀ {ds : List D} {ns : List Int}, intL ds = some ns → ds = ns.map D.int
  | [], ns, h => by cases h; rfl
  | d :: ds, ns, h => by
    cases d <;> first | (cases h; done) | skip
    simp only [intL] at h
    obtain ⟨ms, h1, h2⟩ := Option.map_eq_some_iff.mp h
    subst h2
    rw [intL_some h1]
    rfl
theorem intL_map (ns : List Int) : intL (ns.map D.int) = some ns := by
  induction ns with
  | nil => rfl
  | cons n ns ih => simp [intL, ih]
/-- one list of intL -/
def intsOf (S : Sto) (d : D) : Option (List Int) := match d with
  | .frl ds => intL ds
  | .ref n => (lstAt S n).bind intL
  | _ => none
def vSum : List D → Sto → Ou D
  | [d], S => match intsOf S d with
    | some ns => .ok (.int ns.sum) S
    | none => .bad
  | _, _ => .bad
def vSorted : List D → Sto → Ou D
  | [d], S => match intsOf S d with
    | some ns => .ok (.ref S.length) (S ++ [.lst ((ns.mergeSort fun a b => decide (a ≤ b)).map D.int)])
    | none => .bad
  | _, _ => .bad
section
variable {L : Ly} {X : Cx} {K : PySem.W.Frag} {ρ : List Addr} {S : Sto} {H : Hp}
theorem seqD_at (rs : RSt K L ρ S H) {d : D} {v : V} {ds : List D} (r : RV K H ρ d v) (h : seqD S d = some ds) : ∃ a xs, v = .ref a ∧ RVs K H ρ ds xs ∧ ((SqL K H a xs ∧ ∀ es, d ≠ .tup es) ∨ (SqT K H a xs ∧ d = .tup ds)) := by
  cases r with
  | tup h1 h2 => cases h; exact ⟨_, _, rfl, h2, .inr ⟨h1, rfl⟩⟩
  | frl h1 h2 => cases h; exact ⟨_, _, rfl, h2, .inl ⟨h1.seq, fun es e => by cases e⟩⟩
  | ref ha =>
    obtain ⟨xs, h1, h2⟩ := rs.ob _ _ _ (lstAt_some h) ha
    exact ⟨_, _, rfl, h2, .inl ⟨.of h1, fun es e => by cases e⟩⟩
  | _ => cases h
theorem RVs.one {d : D} {vs : List V} (r : RVs K H ρ [d] vs) : ∃ v, vs = [v] ∧ RV K H ρ d v := by
  cases r with
  | cons h t => cases t; exact ⟨_, rfl, h⟩
theorem RVs.two {d e : D} {vs : List V} (r : RVs K H ρ [d, e] vs) : ∃ v w, vs = [v, w] ∧ RV K H ρ d v ∧ RV K H ρ e w := by
  cases r with
  | cons h t => obtain ⟨w, rfl, hw⟩ := t.one; exact ⟨_, w, rfl, h, hw⟩
theorem RVs.intsV {ns : List Int} {xs : List V} (r : RVs K H ρ (ns.map D.int) xs) : xs = ns.map V.int := by
  induction ns generalizing xs with
  | nil => cases r; rfl
  | cons n ns ih => cases r with
    | cons h t => cases h; rw [ih t]; rfl
theorem intsOf_at (rs : RSt K L ρ S H) {d : D} {v : V} {ns : List Int} (r : RV K H ρ d v) (h : intsOf S d = some ns) : ∃ a, v = .ref a ∧ SqL K H a (ns.map V.int) := by
  cases r with
  | frl h1 h2 =>
    have := intL_some h
    subst this
    rw [h2.intsV] at h1
    exact ⟨_, rfl, h1.seq⟩
  | ref ha =>
    obtain ⟨ds, e1, e2⟩ := Option.bind_eq_some_iff.mp h
    obtain ⟨xs, h1, h2⟩ := rs.ob _ _ _ (lstAt_some e1) ha
    have := intL_some e2
    subst this
    rw [h2.intsV] at h1
    exact ⟨_, rfl, .of h1⟩
  | _ => cases h
theorem cm_len : CaM L X (.builtin "len") vLen := by
  intro pins s σ H vs us Q I r ⟨Wh, ρ, S, ds, rs, rv, g⟩
  rcases ds with _ | ⟨d, _ | ⟨d2, t⟩⟩
  · exact g.elim
  · simp only [vLen] at g
    obtain ⟨v, rfl, hv⟩ := rv.one
    cases e : lenD S d with
    | none => rw [e] at g; exact g.elim
    | some n =>
      rw [e] at g
      have q := Gd.ok g rs (.int n)
      cases hv with
      | tup h1 h2 => cases e; exact call_len_seq pins s σ H _ us Q I r ⟨_, _, rfl, .inr h1, by rw [← h2.length]; exact q⟩
      | frl h1 h2 => cases e; exact call_len_seq pins s σ H _ us Q I r ⟨_, _, rfl, .inl h1.seq, by rw [← h2.length]; exact q⟩
      | str z =>
        simp only [lenD] at e
        split at e
        · rename_i hl
          cases e
          exact call_len_str pins s σ H _ us Q I r ⟨z, rfl, sz16 hl, q⟩
        · cases e
      | ref ha =>
        rename_i m a
        simp only [lenD] at e
        obtain ⟨u, rfl, ru⟩ := vals1 r
        obtain rfl : u = Value.ref a := ru
        split at e
        · rename_i xs hx
          cases e
          obtain ⟨ys, h1, h2⟩ := rs.ob _ _ _ hx ha
          exact call_len_seq pins s σ H [.ref a] [.ref a] Q I r ⟨a, ys, rfl, .inl (.of h1), by rw [← h2.length]; exact q⟩
        · rename_i kvs hx
          cases e
          obtain ⟨ys, h1, h2⟩ := rs.ob _ _ _ hx ha
          exact d_len I (.inl h1) fun t s' I' => ⟨.int ys.length, H, I', ⟨t, rfl⟩, by rw [← h2.len]; exact q⟩
        · rename_i kvs hx
          cases e
          obtain ⟨o, ys, h1, h2⟩ := rs.ob _ _ _ hx ha
          exact d_len I (.inr ⟨o, h1⟩) fun t s' I' => ⟨.int ys.length, H, I', ⟨t, rfl⟩, by rw [← h2.len]; exact q⟩
        · cases e
      | _ => cases e
  · exact g.elim
theorem cm_abs : CaM L X (.builtin "abs") vAbs := by
  intro pins s σ H vs us Q I r ⟨Wh, ρ, S, ds, rs, rv, g⟩
  unfold vAbs at g
  split at g
  · obtain ⟨v, rfl, hv⟩ := rv.one
    cases hv
    exact call_abs pins s σ H _ us Q I r ⟨_, rfl, Gd.ok g rs (.int _)⟩
  · exact g.elim
theorem cm_int : CaM L X (.type "int") vInt := by
  intro pins s σ H vs us Q I r ⟨Wh, ρ, S, ds, rs, rv, g⟩
  unfold vInt at g
  split at g
  · obtain ⟨v, rfl, hv⟩ := rv.one
    cases hv
    exact call_int1 pins s σ H _ us Q I r (.inl ⟨_, rfl, Gd.ok g rs (.int _)⟩)
  · obtain ⟨v, rfl, hv⟩ := rv.one
    cases hv
    exact call_int1 pins s σ H _ us Q I r (.inr ⟨_, rfl, Gd.ok g rs (.int _)⟩)
  · exact g.elim
theorem cm_str : CaM L X (.type "str") vStr := by
  intro pins s σ H vs us Q I r ⟨Wh, ρ, S, ds, rs, rv, g⟩
  unfold vStr at g
  split at g
  · obtain ⟨v, rfl, hv⟩ := rv.one
    cases hv
    obtain ⟨hl, g⟩ := Gd.ifp g
    exact call_str_int pins s σ H _ us Q I r ⟨_, rfl, hl, Gd.ok g rs (.str _)⟩
  · exact g.elim
theorem cm_list : CaM L X (.type "list") vList := by
  intro pins s σ H vs us Q I r ⟨Wh, ρ, S, ds, rs, rv, g⟩
  rcases ds with _ | ⟨d, _ | ⟨d2, t⟩⟩
  · exact g.elim
  · simp only [vList] at g
    obtain ⟨v, rfl, hv⟩ := rv.one
    cases e : seqD S d with
    | none => rw [e] at g; exact g.elim
    | some es =>
      rw [e] at g
      obtain ⟨a, xs, rfl, hx, ho⟩ := seqD_at rs hv e
      refine call_list_of pins s σ H _ us Q I r ⟨a, xs, rfl, ho.imp (·.1) (·.1), fun l hl => Gd.new g rs hl ⟨xs, upd_same, hx.ext (.new hl _)⟩⟩
  · exact g.elim
theorem cm_tuple : CaM L X (.type "tuple") vTuple := by
  intro pins s σ H vs us Q I r ⟨Wh, ρ, S, ds, rs, rv, g⟩
  rcases ds with _ | ⟨d, _ | ⟨d2, t⟩⟩
  · exact g.elim
  · simp only [vTuple] at g
    obtain ⟨v, rfl, hv⟩ := rv.one
    cases e : seqD S d with
    | none => rw [e] at g; exact g.elim
    | some es =>
      rw [e] at g
      obtain ⟨a, xs, rfl, hx, ho⟩ := seqD_at rs hv e
      refine call_tuple_of pins s σ H _ us Q I r ⟨a, xs, rfl, ?_⟩
      rcases ho with ⟨ho, _⟩ | ⟨ho, hd⟩
      · exact .inl ⟨ho, fun l hl => g ρ _ _ (.new0 hl) (rs.keep hl) (.tup (.of upd_same) (hx.ext (.new0 hl)))⟩
      · exact .inr ⟨ho, Gd.ok g rs (.tup ho hx)⟩
  · exact g.elim
theorem cm_max2 (hc : X.calm = true) : CaM L X (.builtin "max") vMax2 := by
  intro pins s σ H vs us Q I r ⟨Wh, ρ, S, ds, rs, rv, g⟩
  unfold vMax2 at g
  split at g
  · obtain ⟨v, w, rfl, hv, hw⟩ := rv.two
    cases hv
    cases hw
    exact call_max2 hc pins s σ H _ us Q I r ⟨_, _, rfl, Gd.ok g rs (.int _)⟩
  · exact g.elim
theorem cm_min2 (hc : X.calm = true) : CaM L X (.builtin "min") vMin2 := by
  intro pins s σ H vs us Q I r ⟨Wh, ρ, S, ds, rs, rv, g⟩
  unfold vMin2 at g
  split at g
  · obtain ⟨v, w, rfl, hv, hw⟩ := rv.two
    cases hv
    cases hw
    exact call_min2 hc pins s σ H _ us Q I r ⟨_, _, rfl, Gd.ok g rs (.int _)⟩
  · exact g.elim
theorem cm_sum (hc : X.calm = true) : CaM L X (.builtin "sum") vSum := by
  intro pins s σ H vs us Q I r ⟨Wh, ρ, S, ds, rs, rv, g⟩
  rcases ds with _ | ⟨d, _ | ⟨d2, t⟩⟩
  · exact g.elim
  · simp only [vSum] at g
    obtain ⟨v, rfl, hv⟩ := rv.one
    cases e : intsOf S d with
    | none => rw [e] at g; exact g.elim
    | some ns =>
      rw [e] at g
      obtain ⟨a, rfl, hx⟩ := intsOf_at rs hv e
      exact cr_sum hc pins s σ H _ us Q I r ⟨a, ns, rfl, hx, Gd.ok g rs (.int _)⟩
  · exact g.elim
theorem sorted_one {l m : List Int} (hp : l.Perm m) (hs : l.Pairwise (· ≤ ·)) : l = m.mergeSort fun a b => decide (a ≤ b) := by
  have h1 : (m.mergeSort fun a b => decide (a ≤ b)).Pairwise fun a b => decide (a ≤ b) = true := List.pairwise_mergeSort (fun a b c h1 h2 => by simp at *; omega) (fun a b => by simp; omega) m
  have h2 : (m.mergeSort fun a b => decide (a ≤ b)).Perm m := List.mergeSort_perm m _
  refine List.Perm.eq_of_pairwise (le := (· ≤ ·)) (fun a b _ _ h1 h2 => Int.le_antisymm h1 h2) hs (h1.imp fun h => by simpa using h) (hp.trans h2.symm)
theorem cm_sorted : CaM L X (.builtin "sorted") vSorted := by
  intro pins s σ H vs us Q I r ⟨Wh, ρ, S, ds, rs, rv, g⟩
  rcases ds with _ | ⟨d, _ | ⟨d2, t⟩⟩
  · exact g.elim
  · simp only [vSorted] at g
    obtain ⟨v, rfl, hv⟩ := rv.one
    cases e : intsOf S d with
    | none => rw [e] at g; exact g.elim
    | some ns =>
      rw [e] at g
      obtain ⟨a, rfl, hx⟩ := intsOf_at rs hv e
      refine cr_sortedI pins s σ H _ us Q I r ⟨a, ns, rfl, hx, fun ns' p hp hs hn => ?_⟩
      rw [sorted_one hp hs]
      exact Gd.new g rs hn ⟨_, upd_same, RVs.ints _⟩
  · exact g.elim
end
end Mi

set_option Elab.async false
set_option linter.all false
set_option maxRecDepth 100000
set_option maxHeartbeats 2000000
set_option autoImplicit false
/-! Mi10: methods of built-in types, comprehensions -/
namespace Mi
open PySem PySem.Spec L2 PyProof.Rows

abbrev MeM (L : Ly) (X : Cx) (id : String) (g : D → List D → Sto → Ou D) : Prop := MtR X id (rMt X.K L g)
def tyD (T : String) (S : Sto) : D → Bool
  | .str _ => T == "str"
  | .frl _ => T == "list"
  | .ref n => match S[n]? with
    | some (.lst _) => T == "list"
    | some (.dct _) => T == "dict"
    | _ => false
  | _ => false
def eBM (T : String) (g : D → List D → Sto → Ou D) (fo : Fx D) (fa : Fx (List D)) : Fx D := bnd fo fun x => fun env S => if tyD T S x = true then bnd fa (fun xs => fun _ S' => g x xs S') env S else .bad
section
variable {K : PySem.W.Frag} {L : Ly} {ρ : List Addr} {S : Sto} {H : Hp}
theorem tyD_V (rs : RSt K L ρ S H) {d : D} {v : V} {T : String} (r : RV K H ρ d v) (h : tyD T S d = true) : tyV K T v H := by
  cases r with
  | str z => exact beq_iff_eq.mp h
  | frl h1 h2 => exact .inl ⟨beq_iff_eq.mp h, _, h1.seq⟩
  | ref ha =>
    simp only [tyD] at h
    split at h
    · rename_i e
      obtain ⟨xs, h1, h2⟩ := rs.ob _ _ _ e ha
      exact .inl ⟨beq_iff_eq.mp h, _, .of h1⟩
    · rename_i e
      obtain ⟨xs, h1, h2⟩ := rs.ob _ _ _ e ha
      exact .inr (.inr (.inl ⟨beq_iff_eq.mp h, .inl ⟨_, h1⟩⟩))
    · cases h
  | _ => cases h
end
section
variable {L : Ly} {X : Cx} {W : WX} {o e : Expr} {es : List Expr} {fo : Fx D} {fa : Fx (List D)} {name : Str} {apos cpos : Pos} {T id : String} {g : D → List D → Sto → Ou D}
theorem Gd.ifpB {α β : Type} {R : Hp → List Addr → α → β → Prop} {K : PySem.W.Frag} {Wh : Value → Option Addr → Hp → Prop} {ρ : List Addr} {H : Hp} {Q : β → Hp → Prop} {c : Prop} [Decidable c] {a : Ou α}
    (q : Gd K L R Wh ρ H (if c then a else .bad) Q) : c ∧ Gd K L R Wh ρ H a Q := Gd.ifp q
theorem me_bm (pa : PlainAttrs T) (slot : Slot T name id) (hty : typeOf (.builtin id) = pure (.type "method_descriptor")) (hm : MeM L X id g) (ho : ME L X W o fo) (ha : MA L X W (e :: es) fa)
    (hbase : attributeBase o name X.env (eval o X.env) = eval o X.env := by rfl)
    (hfew : ((backTo cpos (starEach (e :: es) X.env)).all (fun x => !x.1) && (backToKw cpos (keywordEach [] X.env)).all (fun x => x.1.isSome) && decide ((e :: es).length + ([] : List Keyword).length + (if ([] : List Keyword).isEmpty then 0 else 1) < 30)) = true := by rfl)
    (hline : (apos.endLine == cpos.line) = true := by rfl) (hs : starEach (e :: es) X.env = (false, eval e X.env) :: starEach es X.env := by rfl) (hplain : (backTo cpos (starEach es X.env)).any (·.1) = false := by rfl) :
    ME L X W (.Call (.Attribute o name apos) (e :: es) [] cpos) (eBM T g fo fa) :=
  peI (pe_bm pa slot hty hm ho ha hbase hfew hline hs hplain) fun σ H Q h => (tG.bind h).imp fun x H1 ⟨ρ1, env, S1, d, rs, re, rv, g1⟩ => by
    obtain ⟨hc, g1⟩ := Gd.ifpB g1
    exact ⟨tyD_V rs rv hc, ρ1, env, S1, rs, re, (Gd.bind (R := fun H ρ => RVs X.K H ρ) (o := fa env S1) g1).imp fun xs H2 ⟨ρ2, S2, ys, e2, rs2, ry, g2⟩ => ⟨_, ρ2, S2, d, ys, rs2, rv.ext e2, ry, g2⟩⟩
theorem me_bm0 (pa : PlainAttrs T) (slot : Slot T name id) (hty : typeOf (.builtin id) = pure (.type "method_descriptor")) (hm : MeM L X id g) (ho : ME L X W o fo)
    (hbase : attributeBase o name X.env (eval o X.env) = eval o X.env := by rfl) (hline : (apos.endLine == cpos.line) = true := by rfl) :
    ME L X W (.Call (.Attribute o name apos) [] [] cpos) (eBM T g fo aN) :=
  peI (pe_bm0 pa slot hty hm ho hbase hline) fun σ H Q h => (tG.bind h).imp fun x H1 ⟨ρ1, env, S1, d, rs, re, rv, g1⟩ => by
    obtain ⟨hc, g1⟩ := Gd.ifpB g1
    exact ⟨tyD_V rs rv hc, _, ρ1, S1, d, [], rs, rv, .nil, g1⟩
end
def vAppend : D → List D → Sto → Ou D
  | .ref n, [y], S => match lstAt S n with
    | some xs => if xs.length < 16777216 then .ok .non (S.set n (.lst (xs ++ [y]))) else .bad
    | none => .bad
  | _, _, _ => .bad
def vPop0 : D → List D → Sto → Ou D
  | .ref n, [], S => match lstAt S n with
    | some xs => match xs[xs.length - 1]? with
      | some y => .ok y (S.set n (.lst xs.dropLast))
      | none => .bad
    | none => .bad
  | _, _, _ => .bad
def vPopAt : D → List D → Sto → Ou D
  | .ref n, [.int i], S => match lstAt S n with
    | some xs => if xs.length ≤ 16777216 then match ixN xs.length i with
      | some k => match xs[k]? with
        | some y => .ok y (S.set n (.lst (xs.eraseIdx k)))
        | none => .bad
      | none => .bad else .bad
    | none => .bad
  | _, _, _ => .bad
def vExtend : D → List D → Sto → Ou D
  | .ref n, [.ref m], S => match lstAt S n, lstAt S m with
    | some xs, some ys => if xs.length + ys.length ≤ 16777216 then .ok .non (S.set n (.lst (xs ++ ys))) else .bad
    | _, _ => .bad
  | _, _, _ => .bad
section
variable {L : Ly} {X : Cx}
theorem RVs.dropLast {K : PySem.W.Frag} {H : Hp} {ρ : List Addr} {ds : List D} {xs : List V} (r : RVs K H ρ ds xs) : RVs K H ρ ds.dropLast xs.dropLast := by
  rw [List.dropLast_eq_take, List.dropLast_eq_take, r.length]
  exact r.take _
theorem tm_append : MeM L X "list.append" vAppend := by
  intro pins s σ H x xs v us Q I rx rxs ⟨Wh, ρ, S, d, ds, rs, hd, hds, g⟩
  unfold vAppend at g
  split at g
  · rename_i n y
    cases hd with
    | @ref _ a ha =>
      obtain ⟨z, rfl, hz⟩ := hds.one
      cases e : lstAt S n with
      | none => rw [e] at g; exact g.elim
      | some ys =>
        rw [e] at g
        obtain ⟨hl, g⟩ := Gd.ifp g
        obtain ⟨ws, a1, a2⟩ := rs.ob _ _ _ (lstAt_some e) ha
        have ec : Ext ρ H ρ (upd H a (.lst (ws ++ [z]))) := .chg a1 True.intro
        exact mt_append pins s σ H _ _ v us Q I rx rxs ⟨a, ws, z, rfl, rfl, a1, sz16lt (by rw [← a2.length]; exact hl), Gd.put g rs ha ⟨_, upd_same, (a2.append (.cons hz .nil)).ext ec⟩ .non⟩
  · exact g.elim
theorem tm_pop0 : MeM L X "list.pop" vPop0 := by
  intro pins s σ H x xs v us Q I rx rxs ⟨Wh, ρ, S, d, ds, rs, hd, hds, g⟩
  unfold vPop0 at g
  split at g
  · rename_i n
    cases hd with
    | @ref _ a ha =>
      cases hds
      cases e : lstAt S n with
      | none => rw [e] at g; exact g.elim
      | some ys =>
        rw [e] at g
        simp only at g
        cases e2 : ys[ys.length - 1]? with
        | none => rw [e2] at g; exact g.elim
        | some y =>
          rw [e2] at g
          obtain ⟨ws, a1, a2⟩ := rs.ob _ _ _ (lstAt_some e) ha
          obtain ⟨z, hz, rz⟩ := a2.get e2
          have ec : Ext ρ H ρ (upd H a (.lst ws.dropLast)) := .chg a1 True.intro
          exact mt_pop pins s σ H _ _ v us Q I rx rxs ⟨a, ws, z, rfl, rfl, a1, by rw [← a2.length]; exact hz, Gd.put g rs ha ⟨_, upd_same, a2.dropLast.ext ec⟩ (rz.ext ec)⟩
  · exact g.elim
theorem tm_popAt : MeM L X "list.pop" vPopAt := by
  intro pins s σ H x xs v us Q I rx rxs ⟨Wh, ρ, S, d, ds, rs, hd, hds, g⟩
  unfold vPopAt at g
  split at g
  · rename_i n i
    cases hd with
    | @ref _ a ha =>
      obtain ⟨z, rfl, hz⟩ := hds.one
      cases hz
      cases e : lstAt S n with
      | none => rw [e] at g; exact g.elim
      | some ys =>
        rw [e] at g
        obtain ⟨hl, g⟩ := Gd.ifp g
        cases e1 : ixN ys.length i with
        | none => rw [e1] at g; exact g.elim
        | some k =>
          rw [e1] at g
          simp only at g
          cases e2 : ys[k]? with
          | none => rw [e2] at g; exact g.elim
          | some y =>
            rw [e2] at g
            obtain ⟨ws, a1, a2⟩ := rs.ob _ _ _ (lstAt_some e) ha
            obtain ⟨z, hz, rz⟩ := a2.get e2
            obtain ⟨q1, q2, q3, q4⟩ := ixN_seq e1
            have ec : Ext ρ H ρ (upd H a (.lst (ws.eraseIdx k))) := .chg a1 True.intro
            exact mt_popAt pins s σ H _ _ v us Q I rx rxs ⟨a, ws, i, k, z, rfl, rfl, a1, by omega, by omega, by rw [← a2.length]; exact q1, hz, Gd.put g rs ha ⟨_, upd_same, (a2.eraseIdx k).ext ec⟩ (rz.ext ec)⟩
  · exact g.elim
theorem tm_extend : MeM L X "list.extend" vExtend := by
  intro pins s σ H x xs v us Q I rx rxs ⟨Wh, ρ, S, d, ds, rs, hd, hds, g⟩
  unfold vExtend at g
  split at g
  · rename_i n m
    cases hd with
    | @ref _ a ha =>
      obtain ⟨z, rfl, hz⟩ := hds.one
      cases hz with
      | @ref _ b hb =>
        cases e : lstAt S n with
        | none => rw [e] at g; exact g.elim
        | some ys =>
          cases e2 : lstAt S m with
          | none => rw [e, e2] at g; exact g.elim
          | some zs =>
            rw [e, e2] at g
            obtain ⟨hl, g⟩ := Gd.ifp g
            obtain ⟨ws, a1, a2⟩ := rs.ob _ _ _ (lstAt_some e) ha
            obtain ⟨us', b1, b2⟩ := rs.ob _ _ _ (lstAt_some e2) hb
            have ec : Ext ρ H ρ (upd H a (.lst (ws ++ us'))) := .chg a1 True.intro
            exact mt_extend pins s σ H _ _ v us Q I rx rxs ⟨a, b, ws, us', rfl, rfl, a1, b1, sz16 (by rw [← a2.length, ← b2.length]; exact hl), Gd.put g rs ha ⟨_, upd_same, (a2.append b2).ext ec⟩ .non⟩
  · exact g.elim
end
/-! ### d.get(k), d.get(k, x) -/
def isDct (S : Sto) (x : D) : Bool := match x with
  | .ref n => (dctAt S n).isSome
  | _ => false
def vGet (x k y : D) (S : Sto) : Ou D := match x with
  | .ref n => match dctAt S n, keyD k with
    | some kvs, some key => .ok ((dGet kvs key).getD y) S
    | _, _ => .bad
  | _ => .bad
def eGet1 (fo fk : Fx D) : Fx D := bnd fo fun x => fun env S => if isDct S x = true then bnd fk (fun k => fun _ S' => vGet x k .non S') env S else .bad
def eGet2 (fo fk fy : Fx D) : Fx D := bnd fo fun x => fun env S => if isDct S x = true then bnd fk (fun k => bnd fy fun y => fun _ S' => vGet x k y S') env S else .bad
section
variable {L : Ly} {X : Cx} {W : WX} {o e f : Expr} {fo fk fy : Fx D} {apos cpos : Pos}
theorem vGet_at {K : PySem.W.Frag} {ρ : List Addr} {S : Sto} {H : Hp} {Wh : Value → Option Addr → Hp → Prop} {Q : VK} (rs : RSt K L ρ S H) {n : Nat} {a : Addr} {k y : D} {v w : V} (ha : ρ[n]? = some a) (rk : RV K H ρ k v) (ry : RV K H ρ y w)
    (g : Gd K L (fun H ρ => RV K H ρ) Wh ρ H (vGet (.ref n) k y S) Q) : ∃ o, DGet H a v o ∧ Q (o.getD w) H := by
  simp only [vGet] at g
  cases e1 : dctAt S n with
  | none => rw [e1] at g; exact g.elim
  | some kvs =>
    cases e2 : keyD k with
    | none => rw [e1, e2] at g; exact g.elim
    | some key =>
      rw [e1, e2] at g
      obtain ⟨o, go, ro⟩ := dget_of rs ha e1 rk e2
      exact ⟨o, go, Gd.ok g rs (ro.getD ry)⟩
theorem isDct_at {K : PySem.W.Frag} {ρ : List Addr} {S : Sto} {H : Hp} (rs : RSt K L ρ S H) {x : D} {v : V} (r : RV K H ρ x v) (h : isDct S x = true) : ∃ n a, x = .ref n ∧ v = .ref a ∧ ρ[n]? = some a ∧ IsD H a := by
  cases r with
  | @ref n a ha =>
    obtain ⟨kvs, e⟩ := Option.isSome_iff_exists.mp h
    obtain ⟨kxs, h1, h2⟩ := dctAt_rd rs ha e
    exact ⟨n, a, rfl, rfl, ha, .inl ⟨kxs, h1⟩⟩
  | _ => cases h
theorem me_get1 (hu : X.A.units + 1 < cLine) (ho : ME L X W o fo) (he : ME L X W e fk) (m : M1 X o "get" apos e cpos := by exact ⟨rfl, rfl, rfl, rfl⟩) : ME L X W (.Call (.Attribute o "get" apos) [e] [] cpos) (eGet1 fo fk) :=
  peI (pe_dget1 hu ho he m) fun σ H Q h => (tG.bind h).imp fun x H1 ⟨ρ1, env, S1, d, rs, re, rv, g1⟩ => by
    obtain ⟨hc, g1⟩ := Gd.ifpB g1
    obtain ⟨n, a, rfl, rfl, ha, hd⟩ := isDct_at rs rv hc
    exact ⟨a, rfl, hd, ρ1, env, S1, rs, re, (Gd.bind (R := fun H ρ => RV X.K H ρ) (o := fk env S1) g1).imp fun y H2 ⟨ρ2, S2, k, e2, rs2, rk, g2⟩ => vGet_at rs2 (pre_get e2.pre ha) rk .non g2⟩
theorem me_get2 (hu : X.A.units + 1 < cLine) (ho : ME L X W o fo) (he : ME L X W e fk) (hf : ME L X W f fy) (m : M2 X o "get" apos e f cpos := by exact ⟨rfl, rfl, rfl, rfl⟩) : ME L X W (.Call (.Attribute o "get" apos) [e, f] [] cpos) (eGet2 fo fk fy) :=
  peI (pe_dget2 hu ho he hf m) fun σ H Q h => (tG.bind h).imp fun x H1 ⟨ρ1, env, S1, d, rs, re, rv, g1⟩ => by
    obtain ⟨hc, g1⟩ := Gd.ifpB g1
    obtain ⟨n, a, rfl, rfl, ha, hd⟩ := isDct_at rs rv hc
    exact ⟨a, rfl, hd, ρ1, env, S1, rs, re, (Gd.bind (R := fun H ρ => RV X.K H ρ) (o := fk env S1) g1).imp fun y H2 ⟨ρ2, S2, k, e2, rs2, rk, g2⟩ =>
      ⟨ρ2, env, S2, rs2, re.ext e2, (Gd.bind (R := fun H ρ => RV X.K H ρ) (o := fy env S2) g2).imp fun z H3 ⟨ρ3, S3, yd, e3, rs3, ry, g3⟩ => vGet_at rs3 (pre_get e3.pre (pre_get e2.pre ha)) (rk.ext e3) ry g3⟩⟩
end

/-! ### [e for x in xs if t] -/
def wipeE (env : En) : List Nat → En
  | [] => env
  | v :: vs => (wipeE env vs).set v none
open Classical in
noncomputable def lcGo (chk : Sto → Prop) (gf : Gf) (own : List Nat) (ft : Fx Bool) (fe : Fx D) (n : Nat) : List D → En → Sto → Ou Unit
  | [], _, S => if chk S then .ok () S else .bad
  | d :: ds, env, S => if chk S then match gf d (wipeE env own) S with
      | .nx env2 S2 => match ft env2 S2 with
        | .ok true S3 => match fe env2 S3 with
          | .ok y S4 => match lstAt S4 n with
            | some acc => if acc.length < 16777216 then lcGo chk gf own ft fe n ds env (S4.set n (.lst (acc ++ [y]))) else .bad
            | none => .bad
          | _ => .bad
        | .ok false S3 => lcGo chk gf own ft fe n ds env S3
        | _ => .bad
      | _ => .bad else .bad
noncomputable def eLc (fi : Fx Wk) (gf : Gf) (own : List Nat) (ft : Fx Bool) (fe : Fx D) : Fx D := bnd fi fun p => fun env S => (lcGo p.2 gf own ft fe S.length p.1 env (S ++ [.lst []])).bind fun _ S' => .ok (.ref S.length) S'
def tYesF : Fx Bool := fun _ S => .ok true S
abbrev W0 : WX := fun _ _ _ _ => False
section
variable {K : PySem.W.Frag} {ρ : List Addr} {H : Hp}
theorem REn.wipe {L : Ly} (hz : L.zs = none) {env : En} {σ : L2.St} (h : REn K L H ρ env σ) : ∀ vs : List Nat, REn K L H ρ (wipeE env vs) (L2.wipe σ vs)
  | [] => h
  | v :: vs => (REn.wipe hz h vs).clear hz v
end
/-- the target's places set -/
def setAllV : List Nat → List V → L2.St → L2.St
  | i :: is, v :: vs, σ => setAllV is vs (σ.set i (some v))
  | _, _, σ => σ
theorem setAllV_length : ∀ (is : List Nat) (vs : List V) (σ : L2.St), (setAllV is vs σ).length = σ.length
  | [], vs, σ => by unfold setAllV; rfl
  | i :: is, [], σ => by unfold setAllV; rfl
  | i :: is, v :: vs, σ => by unfold setAllV; rw [setAllV_length is vs, List.length_set]
theorem setAllV_out {j : Nat} : ∀ (is : List Nat) (vs : List V) (σ : L2.St), j ∉ is → (setAllV is vs σ)[j]? = σ[j]?
  | [], vs, σ, _ => by unfold setAllV; rfl
  | i :: is, [], σ, _ => by unfold setAllV; rfl
  | i :: is, v :: vs, σ, h => by
    unfold setAllV
    rw [setAllV_out is vs _ (fun z => h (List.mem_cons_of_mem _ z)), List.getElem?_set_ne]
    rintro rfl
    exact h List.mem_cons_self
theorem wipe_get {j : Nat} {σ : L2.St} : ∀ (vs : List Nat), (L2.wipe σ vs)[j]? = if j ∈ vs ∧ j < σ.length then some none else σ[j]?
  | [] => by simp [L2.wipe]
  | v :: vs => by
    unfold L2.wipe
    rw [List.getElem?_set]
    by_cases e : v = j
    · subst e
      by_cases hl : v < σ.length
      · simp [hl, L2.wipe_length]
      · simp [hl, L2.wipe_length]
    · rw [if_neg e, wipe_get vs]
      simp [show ¬ j = v from fun z => e z.symm]
theorem wipe_setAll {is : List Nat} {σ : L2.St} (vs : List V) : L2.wipe (setAllV is vs (L2.wipe σ is)) is = L2.wipe σ is := by
  refine List.ext_getElem? fun j => ?_
  rw [wipe_get, wipe_get, setAllV_length, L2.wipe_length]
  by_cases h : j ∈ is ∧ j < σ.length
  · rw [if_pos h, if_pos h]
  · rw [if_neg h, if_neg h]
    by_cases hj : j ∈ is
    · have hl : ¬ j < σ.length := fun z => h ⟨hj, z⟩
      rw [List.getElem?_eq_none (by rw [setAllV_length, L2.wipe_length]; omega), List.getElem?_eq_none (by omega)]
    · rw [setAllV_out is vs _ hj, wipe_get, if_neg (fun z => hj z.1)]
theorem tGs_set {H : Hp} {Q : L2.St → Hp → Prop} : ∀ (is : List Nat) (vs : List V) (σ : L2.St), vs.length = is.length → Q (setAllV is vs σ) H → tGs is vs σ H Q
  | [], [], σ, _, q => ⟨rfl, q⟩
  | i :: is, v :: vs, σ, hl, q => ⟨v, vs, rfl, tGs_set is vs _ (by simpa using hl) q⟩
theorem REn.setAll {K : PySem.W.Frag} {L : Ly} {ρ : List Addr} {H : Hp} : ∀ (is : List Nat) (ds : List D) (xs : List V) (env : En) (σ : L2.St), RVs K H ρ ds xs → REn K L H ρ env σ → REn K L H ρ (Mi.setAll is ds env) (setAllV is xs σ)
  | [], ds, xs, env, σ, _, re => by unfold Mi.setAll setAllV; exact re
  | i :: is, _, _, env, σ, .nil, re => by unfold Mi.setAll setAllV; exact re
  | i :: is, _, _, env, σ, .cons r1 r2, re => by
    unfold Mi.setAll setAllV
    exact REn.setAll is _ _ _ _ r2 (re.set i r1)
/-- a comprehension's target: one name, or names side by side -/
structure LcG (K : PySem.W.Frag) (L : Ly) (vs : List Nat) (g : TG) (gf : Gf) : Prop where
  ok : ∀ (σ : L2.St) (env env2 : En) (S S2 : Sto) (H : Hp) (ρ : List Addr) (d : D) (v : V) (Q : L2.St → Hp → Prop), RSt K L ρ S H → REn K L H ρ env (L2.wipe σ vs) → RV K H ρ d v → gf d env S = .nx env2 S2 →
    (∀ σ2, L2.wipe σ2 vs = L2.wipe σ vs → S2 = S → REn K L H ρ env2 σ2 → Q σ2 H) → g v (L2.wipe σ vs) H Q
theorem lcg_name {K : PySem.W.Frag} {L : Ly} (i : Nat) : LcG K L [i] (gName i) (gN i) := ⟨fun σ env env2 S S2 H ρ d v Q rs re rv e q => by
  cases e
  refine q _ ?_ rfl (re.set i rv)
  exact wipe_setAll (is := [i]) [v]⟩
theorem lcg_tup {K : PySem.W.Frag} {L : Ly} (is : List Nat) : LcG K L is (gTup K is.length (tGs is)) (gT is) := ⟨fun σ env env2 S S2 H ρ d v Q rs re rv e q => by
  cases rv with
  | @tup ds a xs h1 h2 =>
    simp only [gT] at e
    by_cases hl : ds.length = is.length
    · rw [if_pos hl] at e
      cases e
      exact ⟨a, xs, rfl, h1, by rw [← h2.length]; exact hl, tGs_set is xs _ (by rw [← h2.length]; exact hl) (q _ (wipe_setAll xs) rfl (REn.setAll is ds xs env _ h2 re))⟩
    · rw [if_neg hl] at e
      cases e
  | _ => cases e⟩
section
variable {L : Ly} {X : Cx} {W : WX}
theorem lc_read (hz : L.zs = none) {fi : Fx Wk} {g : TG} {gf : Gf} {vs : List Nat} {ft : Fx Bool} {fe : Fx D} (hg : LcG X.K L vs g gf) {σ : L2.St} {H : Hp} {Q : VK} (h : tE X.K L W (eLc fi gf vs ft fe) σ H Q) : tLc (tI X.K L W fi) g (tT X.K L W0 ft) (tE X.K L W0 fe) vs σ H Q := by
  refine (tG.bind (R := fun H ρ => RI X.K L H ρ) h).imp fun J H1 ⟨ρ1, env, S1, p, rs1, re1, rJ, g1⟩ D hD => ?_
  obtain ⟨ds, chk⟩ := p
  have J1 : ItOk X.K L J ρ1 H1 ds chk := rJ
  have hlen : S1.length = ρ1.length := rs1.len.symm
  have e1 : Ext ρ1 H1 (ρ1 ++ [D]) (upd H1 D (.lst [])) := .new hD _
  have hDr : (ρ1 ++ [D])[S1.length]? = some D := by rw [hlen]; simp
  have g1' : Gd X.K L (fun H ρ => RV X.K H ρ) (WS W σ) ρ1 H1 ((lcGo chk gf vs ft fe S1.length ds env (S1 ++ [.lst []])).bind fun _ S' => .ok (.ref S1.length) S') Q := g1
  refine ⟨fun i m H => m = ds.length - i ∧ i ≤ ds.length ∧ ∃ ρ S, Ext (ρ1 ++ [D]) (upd H1 D (.lst [])) ρ H ∧ RSt X.K L ρ S H ∧ Gd X.K L (fun H ρ => RV X.K H ρ) (WS W σ) ρ H ((lcGo chk gf vs ft fe S1.length (ds.drop i) env S).bind fun _ S' => .ok (.ref S1.length) S') Q,
    ⟨ds.length, by simp, Nat.zero_le _, ρ1 ++ [D], S1 ++ [.lst []], .refl _ _, rs1.new (u := .lst []) hD ⟨[], upd_same, .nil⟩, by simpa using g1'.mono e1⟩, ?_⟩
  rintro i m H ⟨rfl, hi, ρ, S, ex, rs, gq⟩
  have exJ := e1.trans ex
  have hDρ : ρ[S1.length]? = some D := pre_get ex.pre hDr
  by_cases hlt : i < ds.length
  · rw [List.drop_eq_getElem_cons hlt] at gq
    unfold lcGo at gq
    by_cases hk : chk S
    · rw [if_pos hk] at gq
      obtain ⟨jg, jy⟩ := J1.go i ρ S H exJ rs hk hlt
      refine .inr ⟨jg, fun H' => i + 1 ≤ ds.length ∧ ∃ ρ S, Ext (ρ1 ++ [D]) (upd H1 D (.lst [])) ρ H' ∧ RSt X.K L ρ S H' ∧ Gd X.K L (fun H ρ => RV X.K H ρ) (WS W σ) ρ H' ((lcGo chk gf vs ft fe S1.length (ds.drop (i + 1)) env S).bind fun _ S' => .ok (.ref S1.length) S') Q,
        fun H' ⟨hn, z⟩ => ⟨ds.length - (i + 1), by omega, rfl, hn, z⟩, fun x H' y => ?_⟩
      obtain ⟨d, hd, e2, rs2, rv⟩ := jy x H' y
      have hd' : ds[i] = d := by
        rw [List.getElem?_eq_getElem hlt] at hd
        exact Option.some.inj hd
      rw [hd'] at gq
      have re2 : REn X.K L H' ρ (wipeE env vs) (L2.wipe σ vs) := ((re1.ext (exJ.trans e2))).wipe hz vs
      cases eg : gf d (wipeE env vs) S with
      | nx env2 S2 =>
        rw [eg] at gq
        simp only at gq
        refine hg.ok σ _ env2 S S2 H' ρ d x _ rs2 re2 rv eg fun σ2 hw hS re3 => ⟨hw, ?_⟩
        subst hS
        refine ⟨ρ, env2, S2, rs2, re3, ?_⟩
        cases et : ft env2 S2 with
        | ok b S3 =>
          rw [et] at gq
          cases b with
          | true =>
            simp only at gq
            rintro ρ3 H3 b3 e3 rs3 rfl
            refine iteT ⟨ρ3, env2, S3, rs3, re3.ext e3, ?_⟩
            cases ee : fe env2 S3 with
            | ok y S4 =>
              rw [ee] at gq
              simp only at gq
              rintro ρ4 H4 w e4 rs4 rw4
              cases el : lstAt S4 S1.length with
              | none => rw [el] at gq; exact gq.elim
              | some acc =>
                rw [el] at gq
                simp only at gq
                by_cases hl : acc.length < 16777216
                · rw [if_pos hl] at gq
                  have e24 := (e2.trans e3).trans e4
                  have hD4 : ρ4[S1.length]? = some D := pre_get (e24.pre) hDρ
                  obtain ⟨xs, a1, a2⟩ := rs4.ob _ _ _ (lstAt_some el) hD4
                  have ec : Ext ρ4 H4 ρ4 (upd H4 D (.lst (xs ++ [w]))) := .chg a1 True.intro
                  exact ⟨xs, a1, sz16lt (by rw [← a2.length]; exact hl), hlt, ρ4, _, ((ex.trans e24).trans ec), rs4.set (u := .lst (acc ++ [y])) hD4 ⟨_, upd_same, (a2.append (.cons rw4 .nil)).ext ec⟩, gq.mono (e24.trans ec)⟩
                · rw [if_neg hl] at gq
                  exact gq.elim
            | ex x S4 => rw [ee] at gq; exact gq.elim
            | bad => rw [ee] at gq; exact gq.elim
          | false =>
            simp only at gq
            rintro ρ3 H3 b3 e3 rs3 rfl
            exact iteF ⟨hlt, ρ3, S3, (ex.trans e2).trans e3, rs3, gq.mono (e2.trans e3)⟩
        | ex x S3 => rw [et] at gq; exact gq.elim
        | bad => rw [et] at gq; exact gq.elim
      | _ => rw [eg] at gq; exact gq.elim
    · rw [if_neg hk] at gq
      exact gq.elim
  · have hi' : ds.length ≤ i := Nat.le_of_not_lt hlt
    rw [List.drop_of_length_le hi'] at gq
    unfold lcGo at gq
    by_cases hk : chk S
    · rw [if_pos hk] at gq
      exact .inl ⟨J1.stop i ρ S H exJ rs hk hi', Gd.ok gq rs (.ref hDρ)⟩
    · rw [if_neg hk] at gq
      exact gq.elim
end
end Mi

set_option Elab.async false
set_option linter.all false
set_option maxRecDepth 100000
set_option maxHeartbeats 2000000
set_option autoImplicit false
/-! Mi11: comprehensions' rules, displays, exceptions, locked walks -/
namespace Mi
open PySem PySem.Spec L2 PyProof.Rows

section
variable {L : Ly} {X : Cx} {W : WX}
abbrev BlkX (X : Cx) (scope : Scope) (s : Shared) (H : Hp) (C : Addr) (cl : List (Str × Addr)) (fp : List Addr) : Cx := X.blk s H scope (compEnvC scope cl C X.env) fp
theorem me_lc (hz : L.zs = none) {elt tg iter : Expr} {ifs : List Expr} {scope : Scope} (own : List (Str × Nat)) {pos : Pos} {fi : Fx Wk} {g : TG} {gf : Gf} {ft : Fx Bool} {fe : Fx D} (hc : X.calm = true) (hN : X.N.Nodup) (hi : MI L X W tg iter fi) (ok : BlkOk X.N X.env.scope scope own)
    (lg : LcG X.K L (own.map (·.2)) g gf) (hg : ∀ s H C cl fp, PG (BlkX X scope s H C cl fp) tg g) (ht : ∀ s H C cl fp, PTs (BlkX X scope s H C cl fp) ifs (tT X.K L W0 ft))
    (he : ∀ s H C cl fp, ME L (BlkX X scope s H C cl fp) W0 elt fe) (hs : ∀ x, foldedSetIterable iter X.env x = pure x := by intro _; rfl) :
    ME L X W (.ListComp elt [⟨tg, iter, ifs, 0⟩] scope pos) (eLc fi gf (own.map (·.2)) ft fe) :=
  peI (pe_lc hc hN hi ok hg ht he hs) fun σ H Q h => lc_read hz lg h
theorem ms_setLc (hz : L.zs = none) (i : Nat) {y : Str} {py : Pos} {elt tg iter : Expr} {ifs : List Expr} {scope : Scope} (own : List (Str × Nat)) {pos spos : Pos} {fi : Fx Wk} {g : TG} {gf : Gf} {ft : Fx Bool} {fe : Fx D} (hc : X.calm = true) (hN : X.N.Nodup) (hy : X.N[i]? = some y) (hyl : X.env.scope.names.lookup y = some .local)
    (hsw : swapsWith (.ListComp elt [⟨tg, iter, ifs, 0⟩] scope pos) (some (.Name y py)) spos.line X.env = pure true) (hi : MI L X W tg iter fi) (ok : BlkOk X.N X.env.scope scope own)
    (lg : LcG X.K L (own.map (·.2)) g gf) (hg : ∀ s H C cl fp, PG (BlkX X scope s H C cl fp) tg g) (ht : ∀ s H C cl fp, PTs (BlkX X scope s H C cl fp) ifs (tT X.K L W0 ft))
    (he : ∀ s H C cl fp, ME L (BlkX X scope s H C cl fp) W0 elt fe) (hs : ∀ x, foldedSetIterable iter X.env x = pure x := by intro _; rfl) :
    MS L X W (.Assign [.Name y py] (.ListComp elt [⟨tg, iter, ifs, 0⟩] scope pos) spos) (sSet i (eLc fi gf (own.map (·.2)) ft fe)) :=
  psI (ps_setLc hc hN hy hyl hsw hi ok hg ht he hs) fun Dn σ H ⟨ρ, env, S, rs, re, g⟩ => by
    have z : tE X.K L W (eLc fi gf (own.map (·.2)) ft fe) σ H fun v H1 => gName i v σ H1 Dn.nx :=
      ⟨ρ, env, S, rs, re, (Gs.thn (R := fun H ρ => RV X.K H ρ) (o := eLc fi gf (own.map (·.2)) ft fe env S) re g).imp fun v H1 ⟨ρ1, S1, x, e1, rs1, rv, g1⟩ => g1.nx rs1 ((re.ext e1).set i rv)⟩
    exact lc_read hz lg z
theorem mts_nil {X' : Cx} : PTs X' [] (tT X'.K L W0 tYesF) := ⟨fun pins s σ H Q I ⟨ρ, env, S, rs, re, g⟩ => (pts_nil (X := X')).run pins s σ H Q I (g.ok rs rfl)⟩
theorem mts_one {X' : Cx} {c : Expr} {ft : Fx Bool} (h : MT L X' W0 c ft) : PTs X' [c] (tT X'.K L W0 ft) := pts_one h
end

/-! ### {k: v, ..} -/
def mergeD (kvs more : List (Key × D)) : List (Key × D) := more.foldl (fun acc kv => dPut acc kv.1 kv.2) kvs
/-- keys and values, from the left -/
def eKV : List (Fx D × Fx D) → Fx (List (Key × D))
  | [] => fun _ S => .ok [] S
  | (fk, fv) :: r => bnd fk fun k => bnd fv fun v => bnd (eKV r) fun kvs => fun _ S => match keyD k with
    | some key => .ok ((key, v) :: kvs) S
    | none => .bad
def eDisp (ps : List (Fx D × Fx D)) : Fx D := fun env S => (eKV ps env (S ++ [.dct []])).bind fun kvs S' => match dctW S' S.length with
  | some [] => if kvs.length ≤ 15 then .ok (.ref S.length) (S'.set S.length (.dct (mergeD [] kvs))) else .bad
  | _ => .bad
section
variable {K : PySem.W.Frag} {L : Ly} {W : WX} {ρ : List Addr} {H : Hp}
theorem RKVs.merge {more : List (Key × D)} {mx : List (Key × V)} (r : RKVs K H ρ more mx) : ∀ {kvs : List (Key × D)} {kxs : List (Key × V)}, RKVs K H ρ kvs kxs → RKVs K H ρ (mergeD kvs more) (mergeK kxs mx) := by
  induction r with
  | nil => intro kvs kxs h; exact h
  | cons h t ih =>
    intro kvs kxs z
    unfold mergeD mergeK at ih ⊢
    rw [List.foldl_cons, List.foldl_cons]
    refine ih ?_
    obtain ⟨h1, h2⟩ := h
    rw [h1]
    exact z.put _ h2
def RP (K : PySem.W.Frag) (H : Hp) (ρ : List Addr) (a : List (Key × D)) (b : List (V × V)) : Prop := ∃ kxs : List (Key × V), RKVs K H ρ a kxs ∧ b = kxs.map fun kv => (kV kv.1, kv.2)
theorem pairs_read : ∀ (ps : List (Fx D × Fx D)) (σ : L2.St) (H : Hp) (Q : List (V × V) → Hp → Prop), tG K L (fun H ρ => RP K H ρ) W (eKV ps) σ H Q → tPairs (ps.map fun p => (tE K L W p.1, tE K L W p.2)) σ H Q
  | [], σ, H, Q, ⟨ρ, env, S, rs, re, g⟩ => g.ok rs ⟨[], .nil, rfl⟩
  | (fk, fv) :: r, σ, H, Q, h => (tG.bind (R := fun H ρ => RV K H ρ) (f := fk) h).imp fun k H1 ⟨ρ1, env, S1, kd, rs1, re1, rk, g1⟩ =>
    ⟨ρ1, env, S1, rs1, re1, (Gd.bind (R := fun H ρ => RV K H ρ) (o := fv env S1) g1).imp fun v H2 ⟨ρ2, S2, vd, e2, rs2, rv, g2⟩ =>
      pairs_read r σ H2 _ ⟨ρ2, env, S2, rs2, re1.ext e2, (Gd.bind (R := fun H ρ => RP K H ρ) (o := eKV r env S2) g2).imp fun ps H3 ⟨ρ3, S3, kvs, e3, rs3, ⟨kxs, rp, ep⟩, g3⟩ => by
        cases e : keyD kd with
        | none => rw [e] at g3; exact g3.elim
        | some key =>
          rw [e] at g3
          refine g3.ok rs3 ⟨(key, v) :: kxs, .cons ⟨rfl, rv.ext e3⟩ rp, ?_⟩
          rw [List.map_cons, ep, keyD_kV rk e]⟩⟩
end
section
variable {L : Ly} {X : Cx} {W : WX} {k v : Expr} {ks : List (Option Expr)} {vs : List Expr} {fk fv : Fx D} {ps : List (Fx D × Fx D)} {pos : Pos}
abbrev MP (L : Ly) (X : Cx) (W : WX) (pos : Pos) (ks : List (Option Expr)) (vs : List Expr) (ps : List (Fx D × Fx D)) : Prop := PPs X pos ks vs (ps.map fun p => (tE X.K L W p.1, tE X.K L W p.2))
theorem mp_nil : MP L X W pos [] [] [] := pps_nil
theorem mp_cons (hk : ME L X W k fk) (hv : ME L X W v fv) (hr : MP L X W pos ks vs ps) : MP L X W pos (some k :: ks) (v :: vs) ((fk, fv) :: ps) := pps_cons hk hv hr
theorem me_disp (h : MP L X W pos ks vs ps) (hall : ks.all (·.isSome) = true := by rfl) (hl : ks.length = vs.length := by rfl) (h0 : ks ≠ [] := by intro z; cases z) (h15 : ks.length ≤ 15 := by decide) : ME L X W (.Dict ks vs pos) (eDisp ps) :=
  peI (pe_disp h hall hl h0 h15) fun σ H Q ⟨ρ, env, S, rs, re, g⟩ p hp => by
    have e1 : Ext ρ H (ρ ++ [p]) (upd H p (.dK [])) := .new hp _
    have hS : S.length = ρ.length := rs.len.symm
    have hpr : (ρ ++ [p])[S.length]? = some p := by rw [hS]; simp
    refine pairs_read ps σ _ _ ⟨ρ ++ [p], env, S ++ [.dct []], rs.new (u := .dct []) hp ⟨[], upd_same, .nil⟩, re.ext e1, (Gd.bind (R := fun H ρ => RP X.K H ρ) (o := eKV ps env (S ++ [.dct []])) (g.mono e1)).imp fun qs H2 ⟨ρ2, S2, kvs, e2, rs2, ⟨kxs, rp, ep⟩, g2⟩ => ?_⟩
    have hp2 := pre_get e2.pre hpr
    cases e : dctW S2 S.length with
    | none => rw [e] at g2; exact g2.elim
    | some l =>
      rw [e] at g2
      cases l with
      | cons a b => exact g2.elim
      | nil =>
        obtain ⟨hl, g2⟩ := Gd.ifp g2
        obtain ⟨zs, a1, a2⟩ := dctW_at rs2 hp2 e
        cases a2
        have ec : Ext ρ2 H2 ρ2 (upd H2 p (.dK (mergeK [] kxs))) := .chg a1 True.intro
        exact ⟨a1, kxs, ep, by rw [← rp.len]; exact hl, Gd.put g2 rs2 hp2 ⟨_, upd_same, (rp.merge .nil).ext ec⟩ (.ref hp2)⟩
end

/-! ### raise -/
def sRaise (c : Nat) (fa : Fx (List D)) : Fs := fun env S => (fa env S).thn env fun xs S1 => if xs.length ≤ 1000 then .ex ⟨c, []⟩ env S1 else .bad
/-- .. of a class whose __init__ keeps its arguments -/
def sRaiseI (c n : Nat) (fa : Fx (List D)) : Fs := fun env S => (fa env S).thn env fun xs S1 => if xs.length = n then .ex ⟨c, xs.map some⟩ env S1 else .bad
section
variable {L : Ly} {X : Cx} {W : WX} {x : Str} {e : Expr} {es : List Expr} {fa : Fx (List D)} {p p' pos : Pos} {c : Nat}
/-- a class of errors without an own __init__ -/
structure XcOk (X : Cx) (L : Ly) (x : Str) (c : Nat) : Prop where
  mg : X.mg x = some (.ref (L.ct c))
  ex : PySem.W.excIn X.K (L.ct c) [.type "ValueError", .type "Exception", .type "BaseException", .type "object"] "ValueError.__new__" = true
  kp : PySem.W.keepIn X.K (.ref (L.ct c)) = true
  sb : PySem.W.subIn X.K (.ref (L.ct c)) (.type "BaseException") = some true
  ty : PySem.W.typeIn X.K (.ref (L.ct c)) = some (.type "type")
theorem ms_raise (T : XcOk X L x c) (hc : X.calm = true) (tk : Takes X W) (hg : Gl X x) (ha : MA L X W (e :: es) fa) (hdb : (x == ("__debug__" : Str)) = false := by decide)
    (he : starEach (e :: es) X.env = (false, eval e X.env) :: starEach es X.env := by rfl) (hpl : (backTo pos (starEach es X.env)).any (·.1) = false := by rfl) : MS L X W (.Raise (some (.Call (.Name x p) (e :: es) [] pos)) none p') (sRaise c fa) :=
  psI (ps_raise hc tk (pmk_ownA PySem.F.excBase_ValueError T.ex T.mg T.kp (raises_own T.sb T.ty) hg ha hdb he hpl)) fun Dn σ H h => (tS.thn h).imp fun vs H1 ⟨ρ1, env, S1, xs, rs, re, rv, g1⟩ => by
    by_cases hl : xs.length ≤ 1000
    · rw [if_pos hl] at g1
      exact ⟨Nat.le_trans (by rw [← rv.length]; exact hl) (by rw [sizeLine_eq]; decide), g1 ρ1 H1 σ _ _ (.refl _ _) rs re ⟨rfl, .inl ⟨rfl, rfl⟩⟩⟩
    · rw [if_neg hl] at g1
      exact g1.elim
theorem pmk_own0 {C : Addr} {bmB : List Value} {B newId initId : String} (F : ExcBaseFacts B newId initId bmB) (q : PySem.W.excIn X.K C bmB newId = true) (gC : X.mg x = some (.ref C)) (kC : PySem.W.keepIn X.K (.ref C) = true) (r : Raises X (.ref C)) (hg : Gl X x) (hdb : (x == ("__debug__" : Str)) = false) :
    PMk X (.Call (.Name x p) [] [] pos) (fun _ H Q => Q (.ref C) none H) := fun pins s σ H Q I h => wpAny_Call_Name_kw (ld_glob I hg gC (PySem.W.callWith_K0 I.kIn kC (by
  obtain ⟨bm, N, nm, qn, bs, hdct, sn, sub, ab, col, dd, k0, k1, k2, k3, k5, mN, hC, hN, hni, T⟩ := exc_obj I.kIn q
  exact wpAny_call_exc_subT F T hC hN hni (fun h' e hm => mk_of I hm r h (I.hok.gone hm.new)) (by rw [sizeLine_eq]; decide))) hdb)
theorem ms_raise0 (T : XcOk X L x c) (hc : X.calm = true) (tk : Takes X W) (hg : Gl X x) (hdb : (x == ("__debug__" : Str)) = false := by decide) : MS L X W (.Raise (some (.Call (.Name x p) [] [] pos)) none p') (sRaise c aN) :=
  psI (ps_raise hc tk (pmk_own0 PySem.F.excBase_ValueError T.ex T.mg T.kp (raises_own T.sb T.ty) hg hdb)) fun Dn σ H ⟨ρ, env, S, rs, re, g⟩ => g ρ H σ _ _ (.refl _ _) rs re ⟨rfl, .inl ⟨rfl, rfl⟩⟩
/-! a class of errors with an own __init__ -/
/-- what __init__ does: the fields ns are set, one after the other -/
def initH (a C dx : Addr) (H : Hp) : List (Str × V) → Hp
  | [] => H
  | [(f, v)] => upd (upd H dx (exd dx [(f, v)])) a (exo a C (some dx))
  | (f, v) :: r => upd (initH a C dx H r) dx (exd dx ((f, v) :: r))
/-- fs: the fields, the last set first -/
def spXi (C : Addr) (ns : List Str) : Sp := fun vs H Q _ => ∃ a ws, vs = .ref a :: ws ∧ ws.length = ns.length ∧ H a = some (exo a C none) ∧ ∀ dx, H dx = none → dx ≠ a → Q .non (initH a C dx H ((ns.zip ws).reverse))
structure XiOk (X : Cx) (L : Ly) (x : Str) (c : Nat) (ns : List Str) (k : Nat) : Prop where
  mg : X.mg x = some (.ref (L.ct c))
  cls : OexC X.K (L.ct c)
  fn : L.fn c = ns
  few : ns.length ≤ 64 ∧ ns.Nodup ∧ ns ≠ []
  ini : ∃ fI fd ps, PySem.W.findIn X.K (.ref (L.ct c)) "__init__" = some (some (.ref fI)) ∧ PySem.W.typeIn X.K (.ref fI) = some (.type "function") ∧ FnOk X.prog X.w X.K X.mg X.base (L2.CX X.prog X.w) k fI fd ps (spXi (L.ct c) ns) ∧ L2.Binds X.K fd ps []
theorem initH_end {a C dx : Addr} {H : Hp} (hne : dx ≠ a) : ∀ (l : List (Str × V)), l ≠ [] → initH a C dx H l a = some (exo a C (some dx)) ∧ initH a C dx H l dx = some (exd dx l) ∧ ∀ b, b ≠ a → b ≠ dx → initH a C dx H l b = H b
  | [], h => absurd rfl h
  | [(f, v)], _ => ⟨upd_same, by show upd (upd H dx _) a _ dx = _; rw [upd_ne hne, upd_same], fun b h1 h2 => by show upd (upd H dx _) a _ b = _; rw [upd_ne h1, upd_ne h2]⟩
  | (f, v) :: q :: r, _ => by
    obtain ⟨h1, h2, h3⟩ := initH_end (C := C) (H := H) hne (q :: r) (by intro z; cases z)
    refine ⟨?_, ?_, fun b e1 e2 => ?_⟩
    · show upd (initH a C dx H (q :: r)) dx _ a = _
      rw [upd_ne (Ne.symm hne)]
      exact h1
    · show upd (initH a C dx H (q :: r)) dx _ dx = _
      exact upd_same
    · show upd (initH a C dx H (q :: r)) dx _ b = _
      rw [upd_ne e2]
      exact h3 b e1 e2
theorem lookup_nd {β : Type} {f : Str} {v : β} : ∀ {l : List (Str × β)}, (l.map (·.1)).Nodup → (f, v) ∈ l → l.lookup f = some v
  | [], _, h => by cases h
  | (g, u) :: r, nd, h => by
    rw [List.map_cons, List.nodup_cons] at nd
    rw [List.lookup_cons]
    rcases List.mem_cons.mp h with e | h1
    · cases e
      simp
    · have ne : f ≠ g := by
        rintro rfl
        exact nd.1 (List.mem_map.mpr ⟨(_, v), h1, rfl⟩)
      have q : (f == g) = false := beq_eq_false_iff_ne.mpr ne
      rw [q]
      exact lookup_nd nd.2 h1
theorem RFs.ofZip {K : PySem.W.Frag} {H : Hp} {ρ : List Addr} : ∀ {ns : List Str} {ds : List D} {vs : List V}, RVs K H ρ ds vs → ds.length = ns.length → ns.Nodup → ns.length ≤ 64 → RFs K H ρ ns (ds.map some) ((ns.zip vs).reverse) := by
  intro ns ds vs r hl nd few
  have hlv : vs.length = ns.length := by rw [← r.length]; exact hl
  have hmap : ((ns.zip vs).reverse).map (·.1) = ns.reverse := by
    rw [List.map_reverse, List.map_fst_zip (by omega)]
  refine ⟨fun i f hf => ?_, by simp [hl], nd, by rw [hmap]; exact ((List.reverse_perm ns).nodup_iff.mpr nd), fun m hm => by rw [hmap] at hm; exact List.mem_reverse.mp hm, few⟩
  have hi : i < ns.length := (List.getElem?_eq_some_iff.mp hf).1
  obtain ⟨v, hv, rv⟩ := r.get (List.getElem?_eq_getElem (show i < ds.length by omega))
  have hmem : (f, v) ∈ (ns.zip vs).reverse := by
    rw [List.mem_reverse]
    refine List.mem_iff_getElem?.mpr ⟨i, ?_⟩
    rw [List.getElem?_zip_eq_some]
    exact ⟨hf, hv⟩
  have hnd : (((ns.zip vs).reverse).map (·.1)).Nodup := by rw [hmap]; exact ((List.reverse_perm ns).nodup_iff.mpr nd)
  have hlook : ((ns.zip vs).reverse).lookup f = some v := lookup_nd hnd hmem
  rw [hlook, List.getElem?_map, List.getElem?_eq_getElem (show i < ds.length by omega)]
  exact rv
theorem ms_raiseI {ns : List Str} {k : Nat} (T : XiOk X L x c ns k) (hc : X.calm = true) (tk : Takes X W) (hr : Room (k + 1) X.A) (hg : Gl X x) (ha : MA L X W (e :: es) fa) (hdb : (x == ("__debug__" : Str)) = false := by decide)
    (he : starEach (e :: es) X.env = (false, eval e X.env) :: starEach es X.env := by rfl) (hpl : (backTo pos (starEach es X.env)).any (·.1) = false := by rfl) : MS L X W (.Raise (some (.Call (.Name x p) (e :: es) [] pos)) none p') (sRaiseI c ns.length fa) := by
  obtain ⟨gC, tC, hfn, few, fI, fd, ps, iC, tI, G, b⟩ := T
  refine psI (ps_raise hc tk (pmk_oex tC iC tI G hr b .nil passL hg gC ha hdb he hpl)) fun Dn σ H h => (tS.thn h).imp fun vs H1 ⟨ρ1, env, S1, xs, rs, re, rv, g1⟩ => ?_
  by_cases hl : xs.length = ns.length
  · rw [if_pos hl] at g1
    refine ⟨by rw [← rv.length, hl]; omega, fun a ha' => ⟨a, vs, by rw [List.append_nil], by rw [← rv.length]; exact hl, upd_same, fun dx hd ne => ⟨rfl, dx, (ns.zip vs).reverse, ?_⟩⟩⟩
    have hne : (ns.zip vs).reverse ≠ [] := by
      intro z
      have q := congrArg List.length z
      rw [List.length_reverse, List.length_zip, ← rv.length, hl, Nat.min_self] at q
      exact few.2.2 (List.length_eq_zero_iff.mp q)
    obtain ⟨h1, h2, h3⟩ := initH_end (C := L.ct c) (H := upd H1 a (exo a (L.ct c) none)) ne _ hne
    have hd1 : H1 dx = none := by rw [upd_ne ne] at hd; exact hd
    refine ⟨h1, h2, hd1, ?_⟩
    have eH : upd (L2.del (initH a (L.ct c) dx (upd H1 a (exo a (L.ct c) none)) (ns.zip vs).reverse) a) dx (.xd (ns.zip vs).reverse) = upd H1 dx (.xd (ns.zip vs).reverse) := by
      funext b
      by_cases e1 : b = dx
      · subst e1
        rw [upd_same, upd_same]
      · rw [upd_ne e1, upd_ne e1]
        by_cases e2 : b = a
        · subst e2
          rw [del_same]
          exact ha'.symm
        · rw [del_ne e2, h3 b e2 e1, upd_ne e2]
    rw [eH]
    have ex : Ext ρ1 H1 ρ1 (upd H1 dx (.xd (ns.zip vs).reverse)) := .new0 hd1
    exact g1 ρ1 _ σ _ _ ex (rs.keep hd1) (re.ext ex) ⟨rfl, .inr ⟨dx, _, rfl, upd_same, by rw [hfn]; exact RFs.ofZip (rv.ext ex) hl few.2.1 few.1⟩⟩
  · rw [if_neg hl] at g1
    exact g1.elim
end

/-! ### try .. except X [as n]: suite -/
/-- a suite raises nothing -/
def noX : Os → Os
  | .ex _ _ _ => .bad
  | o => o
def sTry (body : Fs) (tbl : List (Nat × Bool)) (suite : Fs) : Fs := fun env S => match body env S with
  | .ex x env' S' => match tbl.lookup x.c with
    | some true => noX (suite env' S')
    | some false => .ex x env' S'
    | none => .bad
  | o => o
/-- the named one: its name is gone behind the suite -/
def clr (i : Nat) : Os → Os
  | .nx env S => .nx (env.set i none) S
  | .bk env S => .bk (env.set i none) S
  | .ct env S => .ct (env.set i none) S
  | o => o
def sTryAs (body : Fs) (tbl : List (Nat × Bool)) (i : Nat) (suite : Xc → Fs) : Fs := fun env S => match body env S with
  | .ex x env' S' => match tbl.lookup x.c with
    | some true => if i < env'.length then clr i (noX (suite x (env'.set i none) S')) else .bad
    | some false => .ex x env' S'
    | none => .bad
  | o => o
/-- which classes the clause names -/
structure ExT (X : Cx) (L : Ly) (x : Str) (tbl : List (Nat × Bool)) : Prop where
  nm : ∃ cv, Names X x cv ∧ ∀ c b, tbl.lookup c = some b → PySem.W.exmOne X.K (.ref (L.ct c)) cv = some b
/-- in the suite of a named clause -/
abbrev Ly.at (L : Ly) (z : Zx) : Ly := { L with zs := some z }
section
variable {L : Ly} {X : Cx} {W : WX} {x n : Str} {i : Nat} {body suite : List Stmt} {b₀ : Stmt} {np pos pos' : Pos} {fb : Fs} {fs : Xc → Fs} {tbl : List (Nat × Bool)}
theorem Gs.noX {K : PySem.W.Frag} {ρ : List Addr} {H : Hp} {o : Os} {Dn : Ends} (g : Gs K L W ρ H (Mi.noX o) Dn) : Gs K L W0 ρ H o Dn := by
  cases o with
  | ex x env S => exact g.elim
  | _ => exact g
theorem RO.at {K : PySem.W.Frag} {z : Zx} {H : Hp} {ρ : List Addr} {a : Addr} {o : O} : RO K (L.at z) H ρ a o ↔ RO K L H ρ a o := by
  cases o <;> exact Iff.rfl
theorem RSt.at_ {K : PySem.W.Frag} {z : Zx} {H : Hp} {ρ : List Addr} {S : Sto} : RSt K (L.at z) ρ S H ↔ RSt K L ρ S H :=
  ⟨fun r => ⟨r.len, r.nd, fun n o a h1 h2 => RO.at.mp (r.ob n o a h1 h2)⟩, fun r => ⟨r.len, r.nd, fun n o a h1 h2 => RO.at.mpr (r.ob n o a h1 h2)⟩⟩
theorem REn.out {K : PySem.W.Frag} {z : Zx} {H : Hp} {ρ : List Addr} {env : En} {σ : L2.St} (hz : L.zs = none) (r : REn K (L.at z) H ρ env σ) : REn K L H ρ env σ := ⟨r.len, r.at_, fun z e => by rw [hz] at e; cases e⟩
theorem Gs.clr {K : PySem.W.Frag} {z : Zx} (hz : L.zs = none) {ρ : List Addr} {H : Hp} {o : Os} {Dn : Ends} (g : Gs K L W0 ρ H (Mi.clr i o) Dn) :
    Gs K (L.at z) W0 ρ H o { nx := fun σ' H' => Dn.nx (σ'.set i none) H', rt := Dn.rt, bk := fun σ' H' => Dn.bk (σ'.set i none) H', ct := fun σ' H' => Dn.ct (σ'.set i none) H' } := by
  cases o with
  | nx env S => exact fun ρ' H' σ' e r n => g ρ' H' _ e (RSt.at_.mp r) ((n.out hz).clear hz i)
  | bk env S => exact fun ρ' H' σ' e r n => g ρ' H' _ e (RSt.at_.mp r) ((n.out hz).clear hz i)
  | ct env S => exact fun ρ' H' σ' e r n => g ρ' H' _ e (RSt.at_.mp r) ((n.out hz).clear hz i)
  | rt d S => exact fun ρ' H' v e r rv => g ρ' H' v e (RSt.at_.mp r) rv
  | ex x env S => exact fun ρ' H' σ' c d e r n rx => g ρ' H' σ' c d e (RSt.at_.mp r) (n.out hz) rx
  | bad => exact g
theorem ms_try {fs0 : Fs} (hs : X.stack = X.env :: X.outer) (hf : X.env.frame = some X.env.locals) (tk : Takes X W) (T : ExT X L x tbl)
    (hb : ∀ (W' : WX) (pn : List (Addr × Obj)) (xe : Value → Shared → Prop), Takes (X.tr pn xe) W' → PassesOwn (model X.prog X.w) X.A X.env xe → MSs L (X.tr pn xe) W' body fb)
    (hsu : ∀ (a : Addr) (oe : Obj) (cls : Value) (d : Option Addr) (pn : List (Addr × Obj)), Zc cls d oe → (∃ vs, oe.data = .fields vs) → MSs L (X.suite a ((a, oe) :: pn)) W0 (b₀ :: suite) fs0) :
    MS L X W (.Try body [.ExceptHandler (some (.Name x np)) none (b₀ :: suite) pos'] [] [] pos) (sTry fb tbl fs0) := by
  obtain ⟨cv, hn, ht⟩ := T.nm
  refine psI (ps_try_only (tb := fun W' => tS X.K L W' fb) (ts := fun _ _ _ => tS X.K L W0 fs0) hs hf hn tk hb hsu) fun Dn σ H ⟨ρ, env, S, rs, re, g⟩ => ⟨ρ, env, S, rs, re, ?_⟩
  unfold sTry at g
  cases e : fb env S with
  | ex xc env' S' =>
    rw [e] at g
    simp only at g
    intro ρ' H' σ' c dd ex r n rx
    cases e2 : tbl.lookup xc.c with
    | none => rw [e2] at g; exact g.elim
    | some b =>
      rw [e2] at g
      refine ⟨b, by rw [rx.1]; exact ht _ b e2, fun hb a ha => ?_, fun hb => ?_⟩
      · subst hb
        exact ⟨ρ', env', S', r, n, Gs.noX (g.mono ex)⟩
      · subst hb
        exact g ρ' H' σ' c dd ex r n rx
  | _ => rw [e] at g; exact g
/-- the suite's reading: for what is caught -/
def tSy (K : PySem.W.Frag) (L : Ly) (i : Nat) (f : Xc → Fs) (a : Addr) (cls : Value) (dd : Option Addr) : TS := fun Dn σ H => ∃ x, cls = .ref (L.ct x.c) ∧ tS K (L.at ⟨i, a, x, cls, dd⟩) W0 (f x) Dn σ H
theorem ms_tryAs (hz : L.zs = none) (hs : X.stack = X.env :: X.outer) (hf : X.env.frame = some X.env.locals) (hN : X.N.Nodup) (hi : X.N[i]? = some n) (hln : X.env.kindOf n = some .local) (tk : Takes X W) (T : ExT X L x tbl)
    (hb : ∀ (W' : WX) (pn : List (Addr × Obj)) (xe : Value → Shared → Prop), Takes (X.tr pn xe) W' → PassesOwn (model X.prog X.w) X.A X.env xe → MSs L (X.tr pn xe) W' body fb)
    (hsu : ∀ (a : Addr) (oe : Obj) (cls : Value) (d : Option Addr) (pn : List (Addr × Obj)) (x : Xc), cls = .ref (L.ct x.c) → Zc cls d oe → (∃ vs, oe.data = .fields vs) → MSs (L.at ⟨i, a, x, cls, d⟩) (X.suite a ((a, oe) :: pn)) W0 (b₀ :: suite) (fs x)) :
    MS L X W (.Try body [.ExceptHandler (some (.Name x np)) (some n) (b₀ :: suite) pos'] [] [] pos) (sTryAs fb tbl i fs) := by
  obtain ⟨cv, hn, ht⟩ := T.nm
  refine psI (ps_try_as (tb := fun W' => tS X.K L W' fb) (ts := tSy X.K L i fs) hs hf hN hi hln hn tk hb (fun a oe cls d pn zc hf => ⟨fun pins s σ H Dn I ⟨x, ex, h⟩ => (hsu a oe cls d pn x ex zc hf).run pins s σ H Dn I h⟩)) fun Dn σ H ⟨ρ, env, S, rs, re, g⟩ => ⟨ρ, env, S, rs, re, ?_⟩
  unfold sTryAs at g
  cases e : fb env S with
  | ex xc env' S' =>
    rw [e] at g
    simp only at g
    intro ρ' H' σ' c dd ex r n rx
    cases e2 : tbl.lookup xc.c with
    | none => rw [e2] at g; exact g.elim
    | some b =>
      rw [e2] at g
      refine ⟨b, by rw [rx.1]; exact ht _ b e2, fun hb a ha => ?_, fun hb => ?_⟩
      · subst hb
        have hl : i < env'.length := by
          by_cases hl : i < env'.length
          · exact hl
          · simp only [if_neg hl] at g
            exact g.elim
        simp only [if_pos hl] at g
        have n' : REn X.K (L.at ⟨i, a, xc, c, dd⟩) H' ρ' (env'.set i none) (σ'.set i (some (.ref a))) := by
          refine ⟨by simp [n.len], fun j d hj => ?_, fun z e _ => ?_⟩
          · by_cases hij : i = j
            · subst hij
              rw [List.getElem?_set] at hj
              simp at hj
            · rw [List.getElem?_set_ne hij] at hj ⊢
              exact n.at_ j d hj
          · cases e
            exact ⟨List.getElem?_set_self (by rw [← n.len]; exact hl), rx⟩
        refine ⟨xc, rx.1, ρ', _, S', RSt.at_.mpr r, n', ?_⟩
        have g1 : Gs X.K L W ρ' H' (clr i (noX (fs xc (env'.set i none) S'))) Dn := g.mono ex
        have g2 : Gs X.K L W0 ρ' H' (clr i (fs xc (env'.set i none) S')) Dn := by
          cases e3 : fs xc (env'.set i none) S' with
          | ex _ _ _ => rw [e3] at g1; exact g1.elim
          | _ => rw [e3] at g1; exact g1
        exact g2.clr hz
      · subst hb
        exact g ρ' H' σ' c dd ex r n rx
  | _ => rw [e] at g; exact g
end
end Mi

set_option Elab.async false
set_option linter.all false
set_option maxRecDepth 100000
set_option maxHeartbeats 2000000
set_option autoImplicit false
/-! Mi12: dicts' more, walks over dicts, globals -/
namespace Mi
open PySem PySem.Spec L2 PyProof.Rows

/-! ### a module's constant -/
section
variable {L : Ly} {X : Cx} {W : WX}
theorem me_glob {x : Str} {d : D} {v : V} {u : Value} {pos : Pos} (hg : Gl X x) (hm : X.mg x = some u) (r : RelV v u) (rd : ∀ H ρ, RV X.K H ρ d v) (hd : (x == ("__debug__" : Str)) = false := by decide) : ME L X W (.Name x pos) (eC d) :=
  peI (pe_glob hg hm r hd) (tC_of rd)
end

/-! ### o.f op= e -/
def sAugF (tbl : List (Nat × Nat)) (g : D → D → Sto → Ou D) (fo fe : Fx D) : Fs := fun env S => (fo env S).thn env fun o S1 => match insAt S1 o with
  | some (_, c, fs) => match tbl.lookup c with
    | some i => match fs[i]? with
      | some (some x) => (fe env S1).thn env fun y S2 => (g x y S2).thn env fun z S3 => ofS env (match insAt S3 o with
        | some (n, c', fs') => if c' = c then some (S3.set n (.ins c (fs'.set i (some z)))) else none
        | none => none)
      | _ => .bad
    | none => .bad
  | none => .bad
section
variable {L : Ly} {X : Cx} {W : WX} {o i e value : Expr} {fo fi fe : Fx D} {f : Str} {pos pos' tpos : Pos} {tbl : List (Nat × Nat)} {op : Operator} {g : D → D → Sto → Ou D}
theorem ms_augF (T : FldOk X.K L f tbl) (hop : OpM L X (inplaceOp op) g) (ho : ME L X W o fo) (hv : ME L X W value fe) : MS L X W (.AugAssign (.Attribute o f tpos) op value pos) (sAugF tbl g fo fe) :=
  psI (ps_fldaug ho hv (show InOp X op (rM2 X.K L g) from hop)) fun Dn σ H h => (tS.thn h).imp fun x H1 ⟨ρ1, env, S1, d, rs, re, rv, g1⟩ => by
    cases h1 : insAt S1 d with
    | none => rw [h1] at g1; exact g1.elim
    | some q =>
      obtain ⟨n, c, fs⟩ := q
      rw [h1] at g1
      simp only at g1
      cases h2 : tbl.lookup c with
      | none => rw [h2] at g1; exact g1.elim
      | some j =>
        rw [h2] at g1
        simp only at g1
        obtain ⟨a, dx, fx, rfl, hra, hH, r⟩ := ins_of rs rv h1
        obtain ⟨t1, t2, t3⟩ := T.ok c j h2
        have rf := r.at_ j f t1
        cases e3 : fs[j]? with
        | none => rw [e3] at g1; exact g1.elim
        | some q =>
          cases q with
          | none => rw [e3] at g1; exact g1.elim
          | some y =>
            rw [e3] at g1 rf
            obtain ⟨v, hv, rv'⟩ := RF.someD rf
            refine ⟨a, _, dx, fx, v, rfl, hH, t2, t3, hv, ρ1, env, S1, rs, re, (Gs.thn (R := fun H ρ => RV X.K H ρ) (o := fe env S1) re g1).imp fun y2 H2 ⟨ρ2, S2, yd, e2, rs2, ry, g2⟩ => ?_⟩
            have re2 := re.ext e2
            refine ⟨_, ρ2, S2, y, yd, rs2, rv'.ext e2, ry, (Gs.thn (R := fun H ρ => RV X.K H ρ) (o := g y yd S2) re2 g2).imp fun z H3 ⟨ρ3, S3, zd, e3', rs3, rz, g3⟩ => ?_⟩
            cases h4 : insAt S3 d with
            | none => rw [h4] at g3; exact g3.elim
            | some q =>
              obtain ⟨n', c', fs'⟩ := q
              rw [h4] at g3
              simp only at g3
              by_cases hc : c' = c
              · subst hc
                rw [if_pos rfl] at g3
                obtain ⟨a', dx', fx', ea, hra', hH', r'⟩ := ins_of rs3 ((rv.ext e2).ext e3') h4
                cases ea
                refine ⟨dx', fx', hH', r'.lenx, ?_⟩
                have ec : Ext ρ3 H3 ρ3 (upd H3 a (.ins (L.ct c') dx' (putF f z fx'))) := .chg hH' True.intro
                exact g3 ρ3 _ σ ec (rs3.set hra' ⟨dx', _, upd_same, (r'.put t1 rz).ext ec⟩) ((re2.ext e3').ext ec)
              · rw [if_neg hc] at g3
                exact g3.elim
/-! ### d[k] op= e -/
def sAugD (g : D → D → Sto → Ou D) (fo fi fe : Fx D) : Fs := fun env S => (fo env S).thn env fun o S1 => (fi env S1).thn env fun i S2 => match o with
  | .ref n => match dctAt S2 n, keyD i with
    | some kvs, some key => match dGet kvs key with
      | some x => (fe env S2).thn env fun y S3 => (g x y S3).thn env fun z S4 => ofS env (match dctW S4 n with
        | some kvs' => if kvs'.length < 16777216 then some (S4.set n (.dct (dPut kvs' key z))) else none
        | none => none)
      | none => .bad
    | _, _ => .bad
  | _ => .bad
theorem ms_augD (hu : X.A.units + 1 < cLine) (hop : OpM L X (inplaceOp op) g) (ho : ME L X W o fo) (hi : ME L X W i fi) (hv : ME L X W value fe)
    (ha : ∀ ov iv new, augStore i ov iv new = (do holding [new, ov, iv] (setItem ov iv new); release [new, ov, iv] []; pure .next) := by intro _ _ _; rfl) : MS L X W (.AugAssign (.Subscript o i tpos) op value pos) (sAugD g fo fi fe) :=
  psI (ps_daug hu ho hi hv (show InOp X op (rM2 X.K L g) from hop) ha) fun Dn σ H h => (tS.thn h).imp fun x H1 ⟨ρ1, env, S1, od, rs, re, ro, g1⟩ =>
    ⟨ρ1, env, S1, rs, re, (Gs.thn (R := fun H ρ => RV X.K H ρ) (o := fi env S1) re g1).imp fun y H2 ⟨ρ2, S2, id, e2, rs2, ri, g2⟩ => by
      have re2 := re.ext e2
      cases ro with
      | @ref n a hra =>
        simp only at g2
        cases e1 : dctAt S2 n with
        | none => rw [e1] at g2; exact g2.elim
        | some kvs =>
          cases e3 : keyD id with
          | none => rw [e1, e3] at g2; exact g2.elim
          | some key =>
            rw [e1, e3] at g2
            simp only at g2
            have hra2 := pre_get e2.pre hra
            obtain ⟨o, go, ro'⟩ := dget_of rs2 hra2 e1 ri e3
            cases e4 : dGet kvs key with
            | none => rw [e4] at g2; exact g2.elim
            | some xd =>
              rw [e4] at g2 ro'
              simp only at g2
              obtain ⟨v, hv', rv⟩ := RF.someD ro'
              subst hv'
              refine ⟨a, v, rfl, go, ρ2, env, S2, rs2, re2, (Gs.thn (R := fun H ρ => RV X.K H ρ) (o := fe env S2) re2 g2).imp fun y2 H3 ⟨ρ3, S3, yd, e5, rs3, ry, g3⟩ => ?_⟩
              have re3 := re2.ext e5
              refine ⟨_, ρ3, S3, xd, yd, rs3, rv.ext e5, ry, (Gs.thn (R := fun H ρ => RV X.K H ρ) (o := g xd yd S3) re3 g3).imp fun z H4 ⟨ρ4, S4, zd, e6, rs4, rz, g4⟩ => ?_⟩
              have hra4 := pre_get e6.pre (pre_get e5.pre hra2)
              cases e7 : dctW S4 n with
              | none => rw [e7] at g4; exact g4.elim
              | some kvs' =>
                rw [e7] at g4
                simp only at g4
                by_cases hl : kvs'.length < 16777216
                · rw [if_pos hl] at g4
                  obtain ⟨kxs, a1, a2⟩ := dctW_at rs4 hra4 e7
                  have ei := keyD_kV ri e3
                  subst ei
                  have ec : Ext ρ4 H4 ρ4 (upd H4 a (.dK (putK kxs key z))) := .chg a1 True.intro
                  exact ⟨_, DPut.k a1 (sz16lt (by rw [← a2.len]; exact hl)), g4 ρ4 _ σ ec (rs4.set hra4 ⟨_, upd_same, (a2.put key rz).ext ec⟩) ((re3.ext e6).ext ec)⟩
                · rw [if_neg hl] at g4
                  exact g4.elim
      | _ => exact g2.elim⟩
end

/-! ### d.pop(k), d.pop(k, x) -/
def isDctW (S : Sto) (x : D) : Bool := match x with
  | .ref n => (dctW S n).isSome
  | _ => false
def vDPop1 (x k : D) (S : Sto) : Ou D := match x with
  | .ref n => match dctW S n, keyD k with
    | some kvs, some key => match dGet kvs key with
      | some y => .ok y (S.set n (.dct (dDel kvs key)))
      | none => .bad
    | _, _ => .bad
  | _ => .bad
def vDPop2 (x k y : D) (S : Sto) : Ou D := match x with
  | .ref n => match dctW S n, keyD k with
    | some kvs, some key => match dGet kvs key with
      | some z => .ok z (S.set n (.dct (dDel kvs key)))
      | none => .ok y S
    | _, _ => .bad
  | _ => .bad
def eDPop1 (fo fk : Fx D) : Fx D := bnd fo fun x => fun env S => if isDctW S x = true then bnd fk (fun k => fun _ S' => vDPop1 x k S') env S else .bad
def eDPop2 (fo fk fy : Fx D) : Fx D := bnd fo fun x => fun env S => if isDctW S x = true then bnd fk (fun k => bnd fy fun y => fun _ S' => vDPop2 x k y S') env S else .bad
section
variable {L : Ly} {X : Cx} {W : WX} {o e f : Expr} {fo fk fy : Fx D} {apos cpos : Pos}
theorem isDctW_at {K : PySem.W.Frag} {ρ : List Addr} {S : Sto} {H : Hp} (rs : RSt K L ρ S H) {x : D} {v : V} (r : RV K H ρ x v) (h : isDctW S x = true) : ∃ n a, x = .ref n ∧ v = .ref a ∧ ρ[n]? = some a ∧ IsD H a := by
  cases r with
  | @ref n a ha =>
    obtain ⟨kvs, e⟩ := Option.isSome_iff_exists.mp h
    obtain ⟨kxs, h1, h2⟩ := dctW_at rs ha e
    exact ⟨n, a, rfl, rfl, ha, .inl ⟨kxs, .inl h1⟩⟩
  | _ => cases h
theorem me_dpop1 (ho : ME L X W o fo) (he : ME L X W e fk) (m : M1 X o "pop" apos e cpos := by exact ⟨rfl, rfl, rfl, rfl⟩) : ME L X W (.Call (.Attribute o "pop" apos) [e] [] cpos) (eDPop1 fo fk) :=
  peI (pe_dpop1 ho he m) fun σ H Q h => (tG.bind h).imp fun x H1 ⟨ρ1, env, S1, d, rs, re, rv, g1⟩ => by
    obtain ⟨hc, g1⟩ := Gd.ifpB g1
    obtain ⟨n, a, rfl, rfl, ha, hd⟩ := isDctW_at rs rv hc
    refine ⟨a, rfl, hd, ρ1, env, S1, rs, re, (Gd.bind (R := fun H ρ => RV X.K H ρ) (o := fk env S1) g1).imp fun y H2 ⟨ρ2, S2, k, e2, rs2, rk, g2⟩ => ?_⟩
    simp only [vDPop1] at g2
    have ha2 := pre_get e2.pre ha
    cases e1 : dctW S2 n with
    | none => rw [e1] at g2; exact g2.elim
    | some kvs =>
      cases e3 : keyD k with
      | none => rw [e1, e3] at g2; exact g2.elim
      | some key =>
        rw [e1, e3] at g2
        simp only at g2
        obtain ⟨kxs, a1, a2⟩ := dctW_at rs2 ha2 e1
        have rg := a2.get key
        cases e4 : dGet kvs key with
        | none => rw [e4] at g2; exact g2.elim
        | some z =>
          rw [e4] at g2 rg
          obtain ⟨v, hv, rv⟩ := RF.someD rg
          have ec : Ext ρ2 H2 ρ2 (upd H2 a (.dK (dropK kxs key))) := .chg a1 True.intro
          exact ⟨kxs, key, v, a1, keyD_kV rk e3, hv, Gd.put g2 rs2 ha2 ⟨_, upd_same, (a2.del key).ext ec⟩ (rv.ext ec)⟩
theorem me_dpop2 (ho : ME L X W o fo) (he : ME L X W e fk) (hf : ME L X W f fy) (m : M2 X o "pop" apos e f cpos := by exact ⟨rfl, rfl, rfl, rfl⟩) : ME L X W (.Call (.Attribute o "pop" apos) [e, f] [] cpos) (eDPop2 fo fk fy) :=
  peI (pe_dpop2 ho he hf m) fun σ H Q h => (tG.bind h).imp fun x H1 ⟨ρ1, env, S1, d, rs, re, rv, g1⟩ => by
    obtain ⟨hc, g1⟩ := Gd.ifpB g1
    obtain ⟨n, a, rfl, rfl, ha, hd⟩ := isDctW_at rs rv hc
    refine ⟨a, rfl, hd, ρ1, env, S1, rs, re, (Gd.bind (R := fun H ρ => RV X.K H ρ) (o := fk env S1) g1).imp fun y H2 ⟨ρ2, S2, k, e2, rs2, rk, g2⟩ =>
      ⟨ρ2, env, S2, rs2, re.ext e2, (Gd.bind (R := fun H ρ => RV X.K H ρ) (o := fy env S2) g2).imp fun z H3 ⟨ρ3, S3, yd, e3, rs3, ry, g3⟩ => ?_⟩⟩
    simp only [vDPop2] at g3
    have ha3 := pre_get e3.pre (pre_get e2.pre ha)
    cases e1 : dctW S3 n with
    | none => rw [e1] at g3; exact g3.elim
    | some kvs =>
      cases e4 : keyD k with
      | none => rw [e1, e4] at g3; exact g3.elim
      | some key =>
        rw [e1, e4] at g3
        simp only at g3
        obtain ⟨kxs, a1, a2⟩ := dctW_at rs3 ha3 e1
        have rg := a2.get key
        refine ⟨kxs, key, a1, keyD_kV rk e4, fun v hv => ?_, fun hv => ?_⟩
        · cases e5 : dGet kvs key with
          | none => rw [e5, hv] at rg; exact rg.elim
          | some z =>
            rw [e5] at g3
            rw [e5, hv] at rg
            have ec : Ext ρ3 H3 ρ3 (upd H3 a (.dK (dropK kxs key))) := .chg a1 True.intro
            exact Gd.put g3 rs3 ha3 ⟨_, upd_same, (a2.del key).ext ec⟩ (RV.ext ec rg)
        · cases e5 : dGet kvs key with
          | some z => rw [e5, hv] at rg; exact rg.elim
          | none =>
            rw [e5] at g3
            exact g3.ok rs3 ry
end
end Mi

set_option Elab.async false
set_option linter.all false
set_option maxRecDepth 100000
set_option maxHeartbeats 2000000
set_option autoImplicit false
/-! Mi13: sorted, dicts in a row -/
namespace L2
open PySem PySem.Spec PyProof.Rows
section
variable {X : Cx}
/-- sorted(d) of a dict whose keys are texts, of any length -/
theorem call_sortedDA (hcalm : X.calm = true) : CallR X (.builtin "sorted") (fun xs H Q => ∃ (a : Addr) (kvs : List (Key × V)) (ks : List Str), xs = [.ref a] ∧ Rd H a (.dK kvs) ∧ kvs.map (·.1) = ks.map Sum.inr ∧
    ∀ ys p, ys.Perm ks → sortedS ys = true → H p = none → Q (.ref p) (upd H p (.lst (ys.map V.str)))) := by
  intro pins s σ H xs us Q I r q
  obtain ⟨a, kvs, ks, ex, hd, hks, q⟩ := q
  subst ex
  obtain ⟨u, eu, rx⟩ := vals1 r
  subst eu
  cases rx
  obtain ⟨z, lo, vs, rel, dd⟩ := dk_rd I.hok hd
  obtain ⟨ep, hat⟩ := dd.dictAt
  have hkeys : vs.map (·.1) = ks.map Sum.inr := rel.keys.symm.trans hks
  have hl : vs.length = ks.length := by
    have e := congrArg List.length hkeys
    rw [List.length_map, List.length_map] at e
    exact e
  have h16 : vs.length ≤ sizeLine := by rw [← rel.length]; exact z
  refine Calls.call_function_entry PyProof.Rows.kind_sorted PyProof.Rows.plain_sorted PyProof.Rows.entry_sorted (PyProof.Rows.args_sorted1 _) ?_
  unfold Builtin.«sorted»
  refine wpAny_bind (m := checkCount "sorted" 1 1 _) (wpAny_pure ?_)
  refine wpAny_bind (PySem.W.kdu_collect (A := X.A.in1) (PySem.W.kdl_dict (knd := mixKind X.prog X.w) (kvs := vs) (ep := ep) lo) (I.ok.hd hcalm) hat h16 fun h' tk acc hk hacc => ?_)
  have hal : acc.toList.length = ks.length := by rw [Array.length_toList, hacc.1, hl]
  have hS : StrsAre acc.toList ks := strs_at hal fun j v e => by
    obtain ⟨k, x, e1, e2⟩ := hacc.2 j v (by rw [← Array.getElem?_toList]; exact e)
    have e3 : (vs.map (·.1))[j]? = some k := by rw [List.getElem?_map, e1]; all_goals rfl
    rw [hkeys, List.getElem?_map] at e3
    cases e4 : ks[j]? with
    | none => rw [e4] at e3; cases e3
    | some y =>
      rw [e4] at e3
      have e5 : Sum.inr y = k := Option.some.inj e3
      subst e5
      obtain ⟨t, ev⟩ := Value.isStrOf_shape (x := y) (v := v) e2
      exact ⟨y, t, rfl, ev⟩
  have I1 : Inv X pins σ H { s with heap := h', toks := tk } := I.kept hk
  have hL : acc.toList.length ≤ sizeLine := by rw [hal, ← hl]; exact h16
  refine wpAny_bind (wpAny_newList ?_ hL)
  have hoL : (h'.push (seqObj "list" acc.toList.toArray 0)).get? h'.objs.size = some (seqObj "list" acc.toList.toArray 0) := Heap.get?_push_size _ rfl
  show wpAny _ _ _ _ _ { s with heap := h'.push (seqObj "list" acc.toList.toArray 0), toks := tk }
  refine wpAny_bind (wpAny_holding (wpAny_call_entry PyProof.Rows.slot_list_sort ⟨_, hoL, rfl⟩ PyProof.Rows.entry_list_sort
    (list_sort_treeKAny strKind_oneLt (s := { s with heap := h'.push (seqObj "list" acc.toList.toArray 0), toks := tk }) hoL hS.keysOf (fun v₁ v₂ rest e => keyKind_strs (by rw [← e]; exact hS)) hL fun st' hp hs => ⟨_, rfl, ?_⟩)
    (PyProof.Rows.args_list_sort _)))
  obtain ⟨ys, g1, g2, g3⟩ := sorted_out_str hS hp hs
  obtain ⟨e', he'⟩ := PyProof.Rows.sortedHeap_at (vs := acc.toList) (out := (arrOf st').map (·.2)) hoL
  have hlen : (ys.map V.str).length ≤ sizeLine := by
    rw [List.length_map, g2.length_eq, ← hl]
    exact h16
  refine wpAny_pure ⟨_, rfl, .ref h'.objs.size, upd H h'.objs.size (.lst (ys.map V.str)), I1.laid (t' := tk) (fun b u e => ?_) (Nat.le_refl _)
    (show ObjOk X.prog X.w _ _ _ (.lst (ys.map V.str)) from ⟨hlen, ((arrOf st').map (·.2)).toList, e', vals_of_strs g1, by rw [Array.toArray_toList]; exact he'⟩), rfl, q ys _ g2 g3 (I1.hok.fresh (Nat.le_refl _))⟩
  have hb : b < h'.objs.size := Heap.lt_size e
  rw [PyProof.Rows.sortedHeap_old (Nat.ne_of_lt hb) (by rw [size_push']; exact Nat.lt_succ_of_lt hb)]
  exact Heap.get?_push_of_some _ e
/-- .. whose keys are ints -/
theorem call_sortedDIA (hcalm : X.calm = true) : CallR X (.builtin "sorted") (fun xs H Q => ∃ (a : Addr) (kvs : List (Key × V)) (ks : List Int), xs = [.ref a] ∧ Rd H a (.dK kvs) ∧ kvs.map (·.1) = ks.map Sum.inl ∧
    ∀ (ys : List Int) p, ys.Perm ks → ys.Pairwise (· ≤ ·) → H p = none → Q (.ref p) (upd H p (.lst (ys.map V.int)))) := by
  intro pins s σ H xs us Q I r q
  obtain ⟨a, kvs, ks, ex, hd, hks, q⟩ := q
  subst ex
  obtain ⟨u, eu, rx⟩ := vals1 r
  subst eu
  cases rx
  obtain ⟨z, lo, vs, rel, dd⟩ := dk_rd I.hok hd
  obtain ⟨ep, hat⟩ := dd.dictAt
  have hkeys : vs.map (·.1) = ks.map Sum.inl := rel.keys.symm.trans hks
  have hl : vs.length = ks.length := by
    have e := congrArg List.length hkeys
    rw [List.length_map, List.length_map] at e
    exact e
  have h16 : vs.length ≤ sizeLine := by rw [← rel.length]; exact z
  refine Calls.call_function_entry PyProof.Rows.kind_sorted PyProof.Rows.plain_sorted PyProof.Rows.entry_sorted (PyProof.Rows.args_sorted1 _) ?_
  unfold Builtin.«sorted»
  refine wpAny_bind (m := checkCount "sorted" 1 1 _) (wpAny_pure ?_)
  refine wpAny_bind (PySem.W.kdu_collect (A := X.A.in1) (PySem.W.kdl_dict (knd := mixKind X.prog X.w) (kvs := vs) (ep := ep) lo) (I.ok.hd hcalm) hat h16 fun h' tk acc hk hacc => ?_)
  have hal : acc.toList.length = ks.length := by rw [Array.length_toList, hacc.1, hl]
  have hS : IntsAre acc.toList ks := ints_each hal fun j v e => by
    obtain ⟨k, x, e1, e2⟩ := hacc.2 j v (by rw [← Array.getElem?_toList]; exact e)
    have e3 : (vs.map (·.1))[j]? = some k := by rw [List.getElem?_map, e1]; all_goals rfl
    rw [hkeys, List.getElem?_map] at e3
    cases e4 : ks[j]? with
    | none => rw [e4] at e3; cases e3
    | some y =>
      rw [e4] at e3
      have e5 : Sum.inl y = k := Option.some.inj e3
      subst e5
      rcases keyIs_shape (show keyIs (Sum.inl y) v = true from e2) with ⟨i, t, ek, ev⟩ | ⟨z, t, ek, ev⟩
      · have ek' : y = i := Sum.inl.inj ek
        subst ek'
        exact ⟨_, t, rfl, ev⟩
      · exact nomatch ek
  have I1 : Inv X pins σ H { s with heap := h', toks := tk } := I.kept hk
  have hL : acc.toList.length ≤ sizeLine := by rw [hal, ← hl]; exact h16
  refine wpAny_bind (wpAny_newList ?_ hL)
  have hoL : (h'.push (seqObj "list" acc.toList.toArray 0)).get? h'.objs.size = some (seqObj "list" acc.toList.toArray 0) := Heap.get?_push_size _ rfl
  show wpAny _ _ _ _ _ { s with heap := h'.push (seqObj "list" acc.toList.toArray 0), toks := tk }
  refine wpAny_bind (wpAny_holding (wpAny_call_entry PyProof.Rows.slot_list_sort ⟨_, hoL, rfl⟩ PyProof.Rows.entry_list_sort
    (list_sort_treeAny (s := { s with heap := h'.push (seqObj "list" acc.toList.toArray 0), toks := tk }) hoL hS hL fun out ys g1 g2 g3 => ⟨_, rfl, ?_⟩)
    (PyProof.Rows.args_list_sort _)))
  obtain ⟨e', he'⟩ := PyProof.Rows.sortedHeap_at (vs := acc.toList) (out := out) hoL
  have hlen : (ys.map V.int).length ≤ sizeLine := by
    rw [List.length_map, g2.length_eq, ← hl]
    exact h16
  refine wpAny_pure ⟨_, rfl, .ref h'.objs.size, upd H h'.objs.size (.lst (ys.map V.int)), I1.laid (t' := tk) (fun b u e => ?_) (Nat.le_refl _)
    (show ObjOk X.prog X.w _ _ _ (.lst (ys.map V.int)) from ⟨hlen, out.toList, e', vals_of_ints g1, by rw [Array.toArray_toList]; exact he'⟩), rfl, q ys _ g2 g3 (I1.hok.fresh (Nat.le_refl _))⟩
  have hb : b < h'.objs.size := Heap.lt_size e
  rw [PyProof.Rows.sortedHeap_old (Nat.ne_of_lt hb) (by rw [size_push']; exact Nat.lt_succ_of_lt hb)]
  exact Heap.get?_push_of_some _ e
/-- sorted(xs) of a list of texts, of any length -/
theorem call_sortedSA : CallR X (.builtin "sorted") (fun xs H Q => ∃ (a : Addr) (ks : List Str), xs = [.ref a] ∧ SqL X.K H a (ks.map V.str) ∧
    ∀ ys p, ys.Perm ks → sortedS ys = true → H p = none → Q (.ref p) (upd H p (.lst (ys.map V.str)))) := by
  intro pins s σ H vs us Q I r h
  obtain ⟨a, ks, rfl, hs, q⟩ := h
  obtain ⟨its, rv, hl, hz⟩ := I.list hs
  rw [Vals.ref1 r]
  refine sorted_strsAny hl.isList rv.strs (by rw [← rv.length]; exact hz) fun out ys g1 g2 g3 => ?_
  obtain ⟨ep, he'⟩ := PyProof.Rows.sortedAll_at s.heap its out
  have hlen : (ys.map V.str).length ≤ sizeLine := by
    rw [List.length_map, g2.length_eq]
    rw [List.length_map] at hz
    exact hz
  exact ⟨.ref _, upd H (s.heap.objs.size + 1) (.lst (ys.map V.str)), I.laid (t' := s.toks) (fun _ _ => PyProof.Rows.sortedAll_old) (Nat.le_succ _) ⟨hlen, out.toList, ep, vals_of_strs g1, by rw [Array.toArray_toList]; exact he'⟩, rfl, q _ _ g2 g3 (I.hok.fresh (Nat.le_succ _))⟩
end
end L2

namespace Mi
open PySem PySem.Spec L2 PyProof.Rows
def strLe (a b : Str) : Bool := !ltCps b.cps.toList a.cps.toList
theorem strLe_iff {a b : Str} : strLe a b = true ↔ ¬ b.cps.toList < a.cps.toList := by
  unfold strLe
  rw [ltCps_eq]
  simp
theorem strLe_tot (a b : Str) : (strLe a b || strLe b a) = true := by
  rw [Bool.or_eq_true, strLe_iff, strLe_iff]
  rcases Decidable.em (b.cps.toList < a.cps.toList) with h | h
  · exact .inr (List.lt_asymm h)
  · exact .inl h
theorem strLe_tr (a b c : Str) (h1 : strLe a b = true) (h2 : strLe b c = true) : strLe a c = true := by
  rw [strLe_iff] at *
  exact List.not_lt.mpr (List.le_trans (List.not_lt.mp h1) (List.not_lt.mp h2))
theorem strLe_anti {a b : Str} (h1 : strLe a b = true) (h2 : strLe b a = true) : a = b := by
  rw [strLe_iff] at *
  have e : a.cps.toList = b.cps.toList := List.le_antisymm (List.not_lt.mp h1) (List.not_lt.mp h2)
  cases a
  cases b
  simp at e
  rw [e]
theorem rising_pw : ∀ (r : List Str) (p : Str), risingS p r = true → (p :: r).Pairwise fun a b => strLe a b = true
  | [], p, _ => List.pairwise_singleton _ _
  | x :: r, p, h => by
    unfold risingS at h
    rw [Bool.and_eq_true] at h
    have ih := rising_pw r x h.2
    refine List.pairwise_cons.mpr ⟨fun y hy => ?_, ih⟩
    rcases List.mem_cons.mp hy with rfl | hy
    · exact h.1
    · exact strLe_tr _ _ _ h.1 ((List.pairwise_cons.mp ih).1 y hy)
theorem sortedS_pw {l : List Str} (h : sortedS l = true) : l.Pairwise fun a b => strLe a b = true := by
  cases l with
  | nil => exact .nil
  | cons x r => exact rising_pw r x h
theorem sortedS_one {l m : List Str} (hp : l.Perm m) (hs : sortedS l = true) : l = m.mergeSort strLe :=
  List.Perm.eq_of_pairwise (le := fun a b => strLe a b = true) (fun a b _ _ h1 h2 => strLe_anti h1 h2) (sortedS_pw hs) (List.pairwise_mergeSort strLe_tr strLe_tot m) (hp.trans (List.mergeSort_perm m _).symm)
def kD : Key → D
  | .inl i => .int i
  | .inr x => .str x
def keysI : List (Key × D) → Option (List Int)
  | [] => some []
  | (.inl i, _) :: r => (keysI r).map (i :: ·)
  | _ :: _ => none
def keysS : List (Key × D) → Option (List Str)
  | [] => some []
  | (.inr x, _) :: r => (keysS r).map (x :: ·)
  | _ :: _ => none
def strL : List D → Option (List Str)
  | [] => some []
  | .str x :: ds => (strL ds).map (x :: ·)
  | _ :: _ => none
theorem keysI_some : ∀ {kvs : List (Key × D)} {ns : List Int}, keysI kvs = some ns → kvs.map (·.1) = ns.map Sum.inl
  | [], ns, h => by cases h; rfl
  | (.inl i, d) :: r, ns, h => by
    simp only [keysI] at h
    obtain ⟨ms, h1, h2⟩ := Option.map_eq_some_iff.mp h
    subst h2
    rw [List.map_cons, keysI_some h1]
    rfl
  | (.inr x, d) :: r, ns, h => by cases h
theorem keysS_some : ∀ {kvs : List (Key × D)} {ns : List Str}, keysS kvs = some ns → kvs.map (·.1) = ns.map Sum.inr
  | [], ns, h => by cases h; rfl
  | (.inr i, d) :: r, ns, h => by
    simp only [keysS] at h
    obtain ⟨ms, h1, h2⟩ := Option.map_eq_some_iff.mp h
    subst h2
    rw [List.map_cons, keysS_some h1]
    rfl
  | (.inl x, d) :: r, ns, h => by cases h
theorem strL_some : ∀ {ds : List D} {ns : List Str}, strL ds = some ns → ds = ns.map D.str
  | [], ns, h => by cases h; rfl
  | d :: ds, ns, h => by
    cases d <;> first | (cases h; done) | skip
    simp only [strL] at h
    obtain ⟨ms, h1, h2⟩ := Option.map_eq_some_iff.mp h
    subst h2
    rw [strL_some h1]
    rfl
def srtL (ds : List D) : Option (List D) := match intL ds with
  | some ns => some ((ns.mergeSort fun a b => decide (a ≤ b)).map D.int)
  | none => (strL ds).map fun ss => (ss.mergeSort strLe).map D.str
def srtK (kvs : List (Key × D)) : Option (List D) := match keysI kvs with
  | some ns => some ((ns.mergeSort fun a b => decide (a ≤ b)).map D.int)
  | none => (keysS kvs).map fun ss => (ss.mergeSort strLe).map D.str
def sortD (S : Sto) : D → Option (List D)
  | .frl ds => srtL ds
  | .ref n => match lstAt S n with
    | some ds => srtL ds
    | none => (dctAt S n).bind srtK
  | _ => none
def vSort : List D → Sto → Ou D
  | [d], S => match sortD S d with
    | some ds => .ok (.ref S.length) (S ++ [.lst ds])
    | none => .bad
  | _, _ => .bad
section
variable {L : Ly} {X : Cx} {K : PySem.W.Frag} {ρ : List Addr} {S : Sto} {H : Hp}
theorem RVs.strs (ns : List Str) : RVs K H ρ (ns.map D.str) (ns.map V.str) := by
  induction ns with
  | nil => exact .nil
  | cons n ns ih => exact .cons (.str n) ih
theorem RVs.strsV {ns : List Str} {xs : List V} (r : RVs K H ρ (ns.map D.str) xs) : xs = ns.map V.str := by
  induction ns generalizing xs with
  | nil => cases r; rfl
  | cons n ns ih => cases r with
    | cons h t => cases h; rw [ih t]; rfl
theorem RKVs.keys {kvs : List (Key × D)} {kxs : List (Key × V)} (r : RKVs K H ρ kvs kxs) : kvs.map (·.1) = kxs.map (·.1) := by
  induction r with
  | nil => rfl
  | cons h t ih => rw [List.map_cons, List.map_cons, ih, h.1]
theorem cm_sort (hc : X.calm = true) : CaM L X (.builtin "sorted") vSort := by
  intro pins s σ H vs us Q I r ⟨Wh, ρ, S, ds, rs, rv, g⟩
  rcases ds with _ | ⟨d, _ | ⟨d2, t⟩⟩
  · exact g.elim
  · simp only [vSort] at g
    obtain ⟨v, rfl, hv⟩ := rv.one
    cases e : sortD S d with
    | none => rw [e] at g; exact g.elim
    | some es =>
      rw [e] at g
      have byL : ∀ (ds : List D) (a : Addr) (xs : List V), v = .ref a → SqL X.K H a xs → RVs X.K H ρ ds xs → srtL ds = some es → wpAny (model X.prog X.w) X.A (call (.builtin "sorted") us) (EP X pins σ Q) X.xe s := fun ds a xs ev hs rx hL => by
        subst ev
        unfold srtL at hL
        cases e1 : intL ds with
        | some ns =>
          rw [e1] at hL
          cases hL
          have := intL_some e1
          subst this
          rw [rx.intsV] at hs
          exact cr_sortedI pins s σ H _ us Q I r ⟨a, ns, rfl, hs, fun ns' p hp hs hn => by
            rw [sorted_one hp hs]
            exact Gd.new g rs hn ⟨_, upd_same, RVs.ints _⟩⟩
        | none =>
          rw [e1] at hL
          obtain ⟨ss, e2, e3⟩ := Option.map_eq_some_iff.mp hL
          subst e3
          have := strL_some e2
          subst this
          rw [rx.strsV] at hs
          exact call_sortedSA pins s σ H _ us Q I r ⟨a, ss, rfl, hs, fun ns' p hp hs hn => by
            rw [sortedS_one hp hs]
            exact Gd.new g rs hn ⟨_, upd_same, RVs.strs _⟩⟩
      cases hv with
      | frl h1 h2 => exact byL _ _ _ rfl h1.seq h2 e
      | @ref n a ha =>
        simp only [sortD] at e
        cases e0 : lstAt S n with
        | some ds =>
          rw [e0] at e
          obtain ⟨xs, h1, h2⟩ := rs.ob _ _ _ (lstAt_some e0) ha
          exact byL ds a xs rfl (.of h1) h2 e
        | none =>
          rw [e0] at e
          obtain ⟨kvs, e1, e2⟩ := Option.bind_eq_some_iff.mp e
          obtain ⟨kxs, h1, h2⟩ := dctAt_rd rs ha e1
          unfold srtK at e2
          cases e3 : keysI kvs with
          | some ns =>
            rw [e3] at e2
            cases e2
            refine call_sortedDIA hc pins s σ H _ us Q I r ⟨a, kxs, ns, rfl, h1, by rw [← h2.keys, keysI_some e3], fun ns' p hp hs hn => ?_⟩
            rw [sorted_one hp hs]
            exact Gd.new g rs hn ⟨_, upd_same, RVs.ints _⟩
          | none =>
            rw [e3] at e2
            obtain ⟨ss, e4, e5⟩ := Option.map_eq_some_iff.mp e2
            subst e5
            refine call_sortedDA hc pins s σ H _ us Q I r ⟨a, kxs, ss, rfl, h1, by rw [← h2.keys, keysS_some e4], fun ns' p hp hs hn => ?_⟩
            rw [sortedS_one hp hs]
            exact Gd.new g rs hn ⟨_, upd_same, RVs.strs _⟩
      | _ => cases e
  · exact g.elim
theorem RV.key (k : Key) : RV K H ρ (kD k) (kV k) := by
  cases k with
  | inl i => exact .int i
  | inr x => exact .str x
theorem RKVs.keyVs {kvs : List (Key × D)} {kxs : List (Key × V)} (r : RKVs K H ρ kvs kxs) : RVs K H ρ (kvs.map fun kv => kD kv.1) (kxs.map fun kv => kV kv.1) := by
  induction r with
  | nil => exact .nil
  | cons h t ih =>
    refine .cons ?_ ih
    dsimp only
    rw [h.1]
    exact .key _
theorem RKVs.valVs {kvs : List (Key × D)} {kxs : List (Key × V)} (r : RKVs K H ρ kvs kxs) : RVs K H ρ (kvs.map (·.2)) (kxs.map (·.2)) := by
  induction r with
  | nil => exact .nil
  | cons h t ih => exact .cons h.2 ih
/-- list(d) too -/
def vListD : List D → Sto → Ou D
  | [d], S => match seqD S d with
    | some ds => .ok (.ref S.length) (S ++ [.lst ds])
    | none => match d with
      | .ref n => match dctAt S n with
        | some kvs => .ok (.ref S.length) (S ++ [.lst (kvs.map fun kv => kD kv.1)])
        | none => .bad
      | _ => .bad
  | _, _ => .bad
theorem cm_listD (hc : X.calm = true) : CaM L X (.type "list") vListD := by
  intro pins s σ H vs us Q I r ⟨Wh, ρ, S, ds, rs, rv, g⟩
  rcases ds with _ | ⟨d, _ | ⟨d2, t⟩⟩
  · exact g.elim
  · cases e : seqD S d with
    | some es =>
      refine cm_list pins s σ H vs us Q I r ⟨Wh, ρ, S, [d], rs, rv, ?_⟩
      simp only [vListD, e] at g
      simp only [vList, e]
      exact g
    | none =>
      simp only [vListD, e] at g
      obtain ⟨v, rfl, hv⟩ := rv.one
      cases hv <;> first | exact g.elim | skip
      rename_i n a ha
      simp only at g
      cases e0 : dctAt S n with
      | none => rw [e0] at g; exact g.elim
      | some kvs =>
        rw [e0] at g
        obtain ⟨kxs, h1, h2⟩ := dctAt_rd rs ha e0
        exact call_listD hc pins s σ H _ us Q I r ⟨a, kxs, rfl, h1, fun p hp => Gd.new g rs hp ⟨_, upd_same, h2.keyVs.ext (.new hp _)⟩⟩
  · exact g.elim
/-- dict(d) -/
def vDict : List D → Sto → Ou D
  | [.ref n], S => match dctAt S n with
    | some kvs => .ok (.ref S.length) (S ++ [.dct kvs])
    | none => .bad
  | _, _ => .bad
theorem cm_dict : CaM L X (.type "dict") vDict := by
  intro pins s σ H vs us Q I r ⟨Wh, ρ, S, ds, rs, rv, g⟩
  unfold vDict at g
  split at g
  · obtain ⟨v, rfl, hv⟩ := rv.one
    cases hv
    rename_i n a ha
    cases e0 : dctAt S n with
    | none => rw [e0] at g; exact g.elim
    | some kvs =>
      rw [e0] at g
      obtain ⟨kxs, h1, h2⟩ := dctAt_rd rs ha e0
      exact call_dictD pins s σ H _ us Q I r ⟨a, kxs, rfl, h1, fun p hp => Gd.new (u := .dct kvs) g rs hp ⟨_, upd_same, h2.ext (.new hp _)⟩⟩
  · exact g.elim
end
/-! ### list(d.values()) -/
def vVals (x : D) (S : Sto) : Ou D := match x with
  | .ref n => match dctAt S n with
    | some kvs => .ok (.ref S.length) (S ++ [.lst (kvs.map (·.2))])
    | none => .bad
  | _ => .bad
def tVals (td : TE) : TE := fun σ H Q => td σ H fun x H1 => ∃ a kvs, x = V.ref a ∧ Rd H1 a (.dK kvs) ∧ ∀ p, H1 p = none → Q (.ref p) (upd H1 p (.lst (kvs.map (·.2))))
section
variable {L : Ly} {X : Cx} {W : WX} {o : Expr} {fo : Fx D} {p pos apos mpos : Pos} {td : TE}
theorem kv_vals {kvs : List (Key × V)} {vs : List (Key × Value)} (rel : KV kvs vs) : Vals (kvs.map (·.2)) (vs.map (·.2)) := by
  unfold KV at rel
  induction rel with
  | nil => exact .nil
  | cons h t ih => exact .cons h.2 ih
theorem pe_listVals (hc : X.calm = true) (hg : Gl X "list") (hm : X.mg "list" = none) (hd : PE X o td) (hbase : attributeBase o "values" X.env (eval o X.env) = eval o X.env := by rfl) (hline : (apos.endLine == mpos.line) = true := by rfl)
    (hse : starEach [Expr.Call (.Attribute o "values" apos) [] [] mpos] X.env = (false, eval (Expr.Call (.Attribute o "values" apos) [] [] mpos) X.env) :: starEach [] X.env := by rfl) :
    PE X (.Call (.Name "list" p) [.Call (.Attribute o "values" apos) [] [] mpos] [] pos) (tVals td) := by
  refine ⟨fun pins s σ H Q I h => ?_⟩
  refine wpAny_Call_Name_kw (ld_blt I hg hm (u := .type "list") (by first | rfl | decide +kernel) ?_ (by first | decide +kernel | decide) (by first | decide +kernel | decide))
  refine PyProof.Rows.callWith_type1 (rest := []) ?_ hse (by rfl)
  rw [hse]
  refine Calls.spliced_cons (wpAny_Call_method0_late hbase hline (thn (hd.run pins s σ H _ I h) fun v s1 ⟨x, H1, I1, r1, a, kvs, ex, ha, q⟩ => ?_))
  subst ex
  obtain rfl : v = Value.ref a := r1
  obtain ⟨z, hsys, vs, rel, dof⟩ := dk_rd I1.hok ha
  obtain ⟨ep, dat⟩ := dof.dictAt
  have dat' := dat
  obtain ⟨ob, es, ho, ex, hdat, hko, hpr, hnd⟩ := dat'
  refine ⟨"dict", "dict.values", F.plainAttrs_dict, F.slot_dict_values, F.type_dict_values, ⟨ob, ho, ex.1⟩, fun b e => ?_, Calls.callWith_builtin rfl (PySem.evalArgs_none ?_)⟩
  · cases e
    exact ⟨ob, ho, ex.2.1⟩
  refine call_meetsIn F.slot_dict_values ⟨ob, ho, ex.1⟩ F.entry_dict_values (F.args_dict_values_1 _) (meets_dict_values (mixKind X.prog X.w) a hsys) ⟨⟨vs, dof⟩, ?_⟩
  have k1 : ∀ b u, s1.heap.get? b = some u → (s1.heap.push { cls := .type "dict_values", data := .fields #[.ref a] }).get? b = some u := fun b u e => Heap.get?_push_of_some _ e
  have dat1 : (s1.heap.push { cls := .type "dict_values", data := .fields #[.ref a] }).DictAt (mixKind X.prog X.w) a vs ep := dat.keep k1
  have hV : (s1.heap.push { cls := .type "dict_values", data := .fields #[.ref a] }).IsValuesView s1.heap.objs.size a := ⟨_, Heap.get?_push_size _ rfl, rfl, rfl⟩
  have I2 : Inv X pins σ H1 { s1 with heap := s1.heap.push { cls := .type "dict_values", data := .fields #[.ref a] } } := I1.kept (t' := s1.toks) k1
  refine Calls.spliced_nil ?_
  refine PySem.W.kdl_call (s := { s1 with heap := s1.heap.push { cls := .type "dict_values", data := .fields #[.ref a] } }) (PySem.W.kdl_values (knd := mixKind X.prog X.w) (kvs := vs) (ep := ep)) (I2.ok.hd hc) ⟨hV, dat1⟩ (by rw [← rel.length]; exact z) fun h' tk acc c' hk hD hacc => ?_
  have hv : acc.toList = vs.map (·.2) := PySem.W.kdl_vals_eq acc.toList (by rw [Array.length_toList]; exact hacc.1) fun j v e => hacc.2 j v (by rw [← Array.getElem?_toList]; exact e)
  have hvv : Vals (kvs.map (·.2)) acc.toList := by
    rw [hv]
    exact kv_vals rel
  exact ⟨.ref (s1.heap.objs.size + 1), upd H1 (s1.heap.objs.size + 1) (.lst (kvs.map (·.2))), I2.laid (t' := tk) hk (by rw [size_push']; exact Nat.le_refl _)
    (show ObjOk X.prog X.w _ _ _ (.lst (kvs.map (·.2))) from ⟨by rw [List.length_map]; exact z, acc.toList, c', hvv, by rw [Array.toArray_toList, ← size_push' s1.heap]; exact hD⟩), by rw [size_push']; rfl, q _ (I2.hok.fresh (by rw [size_push']; exact Nat.le_refl _))⟩
theorem me_vals (hc : X.calm = true) (hg : Gl X "list") (hm : X.mg "list" = none) (hd : ME L X W o fo) (hbase : attributeBase o "values" X.env (eval o X.env) = eval o X.env := by rfl) (hline : (apos.endLine == mpos.line) = true := by rfl)
    (hse : starEach [Expr.Call (.Attribute o "values" apos) [] [] mpos] X.env = (false, eval (Expr.Call (.Attribute o "values" apos) [] [] mpos) X.env) :: starEach [] X.env := by rfl) :
    ME L X W (.Call (.Name "list" p) [.Call (.Attribute o "values" apos) [] [] mpos] [] pos) (op1 vVals fo) :=
  peI (pe_listVals hc hg hm hd hbase hline hse) fun σ H Q h => (one h).imp fun x H1 ⟨Wh, ρ, S, d, rs, rv, g⟩ => by
    unfold vVals at g
    split at g
    · rename_i n
      cases rv with
      | @ref _ a hra =>
        cases e0 : dctAt S n with
        | none => rw [e0] at g; exact g.elim
        | some kvs =>
          rw [e0] at g
          obtain ⟨kxs, h1, h2⟩ := dctAt_rd rs hra e0
          exact ⟨a, kxs, rfl, h1, fun p hp => Gd.new g rs hp ⟨_, upd_same, h2.valVs.ext (.new hp _)⟩⟩
    · exact g.elim
end
end Mi

set_option Elab.async false
set_option linter.all false
set_option maxRecDepth 100000
set_option maxHeartbeats 2000000
set_option autoImplicit false
/-! Mi14: walks over dicts -/
namespace Mi
open PySem PySem.Spec L2 PyProof.Rows

structure Ext0 (ρ : List Addr) (H : Hp) (ρ' : List Addr) (H' : Hp) : Prop where
  pre : ρ <+: ρ'
  tup : ∀ b xs, H b = some (.tup xs) → H' b = some (.tup xs)
  fzl : ∀ b o xs, H b = some (.frz o (.lst xs)) → H' b = some (.frz o (.lst xs))
  fzt : ∀ b o xs, H b = some (.frz o (.tup xs)) → H' b = some (.frz o (.tup xs))
  xd : ∀ b fs, H b = some (.xd fs) → H' b = some (.xd fs)
section
variable {K : PySem.W.Frag} {L : Ly} {H H' : Hp} {ρ ρ' : List Addr}
mutual
theorem RV.ext0 {d : D} {v : V} (e : Ext0 ρ H ρ' H') (h : RV K H ρ d v) : RV K H' ρ' d v := match h with
  | .non => .non
  | .bl b => .bl b
  | .int i => .int i
  | .str x => .str x
  | .tup h1 h2 => .tup (by
      rcases h1 with (h | ⟨o, h⟩) | h
      · exact .inl (.inl (e.tup _ _ h))
      · exact .inl (.inr ⟨o, e.fzt _ _ _ h⟩)
      · exact .inr h) (RVs.ext0 e h2)
  | .frl h1 h2 => .frl (by
      rcases h1 with ⟨o, h⟩ | h
      · exact .inl ⟨o, e.fzl _ _ _ h⟩
      · exact .inr h) (RVs.ext0 e h2)
  | .ref h1 => .ref (pre_get e.pre h1)
theorem RVs.ext0 {ds : List D} {vs : List V} (e : Ext0 ρ H ρ' H') (h : RVs K H ρ ds vs) : RVs K H' ρ' ds vs := match h with
  | .nil => .nil
  | .cons h1 h2 => .cons (RV.ext0 e h1) (RVs.ext0 e h2)
end
theorem RKVs.ext0 {kvs : List (Key × D)} {kxs : List (Key × V)} (e : Ext0 ρ H ρ' H') (h : RKVs K H ρ kvs kxs) : RKVs K H' ρ' kvs kxs :=
  Paired.mapP h fun _ _ z => ⟨z.1, z.2.ext0 e⟩
theorem RF.ext0 {a : Option D} {b : Option V} (e : Ext0 ρ H ρ' H') (h : RF K H ρ a b) : RF K H' ρ' a b := by
  cases a <;> cases b <;> first | exact h | exact RV.ext0 e h
theorem RFs.ext0 {ns : List Str} {fs : List (Option D)} {fx : List (Str × V)} (e : Ext0 ρ H ρ' H') (h : RFs K H ρ ns fs fx) : RFs K H' ρ' ns fs fx :=
  ⟨fun i f z => (h.at_ i f z).ext0 e, h.len, h.nd, h.ndx, h.sub, h.few⟩
theorem REn.ext0 {env : En} {σ : L2.St} (e : Ext0 ρ H ρ' H') (h : REn K L H ρ env σ) : REn K L H' ρ' env σ :=
  ⟨h.len, fun i d z => let ⟨v, h1, h2⟩ := h.at_ i d z; ⟨v, h1, h2.ext0 e⟩, fun z hz hn => let ⟨h1, h2⟩ := h.zz z hz hn; ⟨h1, h2.1, h2.2.imp id fun ⟨d, fx, a, b, c⟩ => ⟨d, fx, a, e.xd d fx b, c.ext0 e⟩⟩⟩
theorem RO.ext0 {a : Addr} {o : O} (e : Ext0 ρ H ρ' H') (ha : H' a = H a) (h : RO K L H ρ a o) : RO K L H' ρ' a o := by
  cases o with
  | lst ds => obtain ⟨xs, h1, h2⟩ := h; exact ⟨xs, ha.trans h1, h2.ext0 e⟩
  | dct kvs => obtain ⟨xs, h1, h2⟩ := h; exact ⟨xs, ha.trans h1, h2.ext0 e⟩
  | lkd kvs => obtain ⟨o, xs, h1, h2⟩ := h; exact ⟨o, xs, ha.trans h1, h2.ext0 e⟩
  | ins c fs => obtain ⟨dx, fx, h1, h2⟩ := h; exact ⟨dx, fx, ha.trans h1, h2.ext0 e⟩
theorem Ext0.unl {a : Addr} {o : Obj} {kxs : List (Key × V)} {u : HO} (h : H a = some (.frz o (.dK kxs))) : Ext0 ρ H ρ (upd H a u) := by
  refine ⟨List.prefix_refl _, fun b xs e => ?_, fun b w xs e => ?_, fun b w xs e => ?_, fun b xs e => ?_⟩
  all_goals
    rw [upd_ne]
    · exact e
    · rintro rfl
      rw [h] at e
      cases e
theorem Ext.unlock {a : Addr} {o : Obj} {kxs : List (Key × V)} {u u' : HO} (h : H a = some (.dK kxs)) (e : Ext ρ (upd H a u) ρ' H') : Ext ρ H ρ' (upd H' a u') := by
  have ne : ∀ b w, H b = some w → (∀ z, w ≠ .dK z) → b ≠ a := fun b w hb hw z => by
    subst z
    rw [h] at hb
    cases hb
    exact hw _ rfl
  refine ⟨e.pre, fun b xs q => ?_, fun b w xs q => ?_, fun b w xs q => ?_, fun b xs q => ?_, fun b w xs q => ?_⟩
  · have n := ne b _ q fun z h => nomatch h
    rw [upd_ne n]
    exact e.hx.tup b xs (by rw [upd_ne n]; exact q)
  · have n := ne b _ q fun z h => nomatch h
    rw [upd_ne n]
    exact e.hx.fzl b w xs (by rw [upd_ne n]; exact q)
  · have n := ne b _ q fun z h => nomatch h
    rw [upd_ne n]
    exact e.hx.fzt b w xs (by rw [upd_ne n]; exact q)
  · have n := ne b _ q fun z h => nomatch h
    rw [upd_ne n]
    exact e.hx.xd b xs (by rw [upd_ne n]; exact q)
  · have n := ne b _ q fun z h => nomatch h
    rw [upd_ne n]
    exact e.hx.fzd b w xs (by rw [upd_ne n]; exact q)
theorem RSt.unlock {S : Sto} (r : RSt K L ρ S H) {n : Nat} {a : Addr} {o : Obj} {kvs : List (Key × D)} {kxs : List (Key × V)} (ha : ρ[n]? = some a) (h : H a = some (.frz o (.dK kxs))) (hr : RKVs K H ρ kvs kxs) :
    RSt K L ρ (S.set n (.dct kvs)) (upd H a (.dK kxs)) := by
  have e0 : Ext0 ρ H ρ (upd H a (.dK kxs)) := .unl h
  refine ⟨by simp [r.len], r.nd, fun m w b h1 h2 => ?_⟩
  by_cases hm : n = m
  · subst hm
    rw [ha] at h2
    cases h2
    rw [List.getElem?_set_self (by rw [← r.len]; exact (List.getElem?_eq_some_iff.mp ha).1)] at h1
    cases h1
    exact ⟨kxs, upd_same, hr.ext0 e0⟩
  · rw [List.getElem?_set_ne hm] at h1
    refine (r.ob m w b h1 h2).ext0 e0 (upd_ne ?_)
    rintro rfl
    obtain ⟨l1, e1⟩ := List.getElem?_eq_some_iff.mp ha
    obtain ⟨l2, e2⟩ := List.getElem?_eq_some_iff.mp h2
    exact hm ((List.getElem_inj r.nd).mp (e1.trans e2.symm))
end
def unlS (n : Nat) (S : Sto) : Option Sto := match S[n]? with
  | some (.lkd kvs) => some (S.set n (.dct kvs))
  | _ => none
def unl (n : Nat) : Os → Os
  | .nx env S => match unlS n S with
    | some S' => .nx env S'
    | none => .bad
  | .bk env S => match unlS n S with
    | some S' => .bk env S'
    | none => .bad
  | .ct env S => match unlS n S with
    | some S' => .ct env S'
    | none => .bad
  | .rt d S => match unlS n S with
    | some S' => .rt d S'
    | none => .bad
  | .ex x env S => match unlS n S with
    | some S' => .ex x env S'
    | none => .bad
  | .bad => .bad
def sLock (sel : En → Sto → Option Nat) (f : Fs) : Fs := fun env S => match sel env S with
  | some n => match dctW S n with
    | some kvs => unl n (f env (S.set n (.lkd kvs)))
    | none => .bad
  | none => .bad
def selD (fe : Fx D) (env : En) (S : Sto) : Option Nat := match fe env S with
  | .ok (.ref n) _ => some n
  | _ => none
def lkW (X : Cx) (W : WX) (a : Addr) : WX := fun c d σ H => (∀ o' u', X.H_0 a ≠ some (.frz o' u')) ∧ ∃ o kxs, H a = some (.frz o (.dK kxs)) ∧ W c d σ (upd H a (.dK kxs))
section
variable {L : Ly} {X : Cx} {W : WX}
theorem takes_lk (tk : Takes X W) (a : Addr) : Takes X (lkW X W a) := fun u s' ⟨a0, B, sI, pins, σ, H, cls, d, e, I, nb, up, sky, na, os, ag, hn, o, kxs, h, w⟩ =>
  tk u s' ⟨a0, B, sI, pins, σ, upd H a (.dK kxs), cls, d, e, I.unlock h hn, nb, up, sky, by rw [upd_ne (fun z => by rw [z, h] at na; cases na)]; exact na, os, ag, w⟩
theorem unlS_at {K : PySem.W.Frag} {ρ : List Addr} {S S' : Sto} {H : Hp} {n : Nat} {a : Addr} (e : unlS n S = some S') (r : RSt K L ρ S H) (ha : ρ[n]? = some a) :
    ∃ o kxs, H a = some (.frz o (.dK kxs)) ∧ RSt K L ρ S' (upd H a (.dK kxs)) := by
  unfold unlS at e
  split at e
  · rename_i kvs h
    cases e
    obtain ⟨o, kxs, h1, h2⟩ := r.ob _ _ _ h ha
    exact ⟨o, kxs, h1, r.unlock ha h1 h2⟩
  · cases e
def lkD (a : Addr) (Dn : Ends) : Ends := ⟨fun σ' H' => ∃ o kxs, H' a = some (.frz o (.dK kxs)) ∧ Dn.nx σ' (upd H' a (.dK kxs)), fun v H' => ∃ o kxs, H' a = some (.frz o (.dK kxs)) ∧ Dn.rt v (upd H' a (.dK kxs)),
  fun σ' H' => ∃ o kxs, H' a = some (.frz o (.dK kxs)) ∧ Dn.bk σ' (upd H' a (.dK kxs)), fun σ' H' => ∃ o kxs, H' a = some (.frz o (.dK kxs)) ∧ Dn.ct σ' (upd H' a (.dK kxs))⟩
theorem Gs.unl {ρ : List Addr} {H : Hp} {n : Nat} {a : Addr} {kxs : List (Key × V)} {u : HO} {o : Os} {Dn : Ends} (ha : ρ[n]? = some a) (h1 : H a = some (.dK kxs)) (hn : ∀ o' u', X.H_0 a ≠ some (.frz o' u'))
    (g : Gs X.K L W ρ H (Mi.unl n o) Dn) : Gs X.K L (lkW X W a) ρ (upd H a u) o (lkD a Dn) := by
  cases o with
  | nx env S =>
    intro ρ' H' σ' e r nn
    simp only [Mi.unl] at g
    cases e1 : unlS n S with
    | none => rw [e1] at g; exact g.elim
    | some S' =>
      rw [e1] at g
      obtain ⟨o, kxs', h2, r2⟩ := unlS_at e1 r (pre_get e.pre ha)
      exact ⟨o, kxs', h2, g ρ' _ σ' (Ext.unlock (o := o) h1 e) r2 (nn.ext0 (.unl h2))⟩
  | bk env S =>
    intro ρ' H' σ' e r nn
    simp only [Mi.unl] at g
    cases e1 : unlS n S with
    | none => rw [e1] at g; exact g.elim
    | some S' =>
      rw [e1] at g
      obtain ⟨o, kxs', h2, r2⟩ := unlS_at e1 r (pre_get e.pre ha)
      exact ⟨o, kxs', h2, g ρ' _ σ' (Ext.unlock (o := o) h1 e) r2 (nn.ext0 (.unl h2))⟩
  | ct env S =>
    intro ρ' H' σ' e r nn
    simp only [Mi.unl] at g
    cases e1 : unlS n S with
    | none => rw [e1] at g; exact g.elim
    | some S' =>
      rw [e1] at g
      obtain ⟨o, kxs', h2, r2⟩ := unlS_at e1 r (pre_get e.pre ha)
      exact ⟨o, kxs', h2, g ρ' _ σ' (Ext.unlock (o := o) h1 e) r2 (nn.ext0 (.unl h2))⟩
  | rt d S =>
    intro ρ' H' v e r nn
    simp only [Mi.unl] at g
    cases e1 : unlS n S with
    | none => rw [e1] at g; exact g.elim
    | some S' =>
      rw [e1] at g
      obtain ⟨o, kxs', h2, r2⟩ := unlS_at e1 r (pre_get e.pre ha)
      exact ⟨o, kxs', h2, g ρ' _ v (Ext.unlock (o := o) h1 e) r2 (nn.ext0 (.unl h2))⟩
  | ex x env S =>
    intro ρ' H' σ' c dd e r nn rx
    simp only [Mi.unl] at g
    cases e1 : unlS n S with
    | none => rw [e1] at g; exact g.elim
    | some S' =>
      rw [e1] at g
      obtain ⟨o, kxs', h2, r2⟩ := unlS_at e1 r (pre_get e.pre ha)
      have e0 : Ext0 ρ' H' ρ' (upd H' a (.dK kxs')) := .unl h2
      refine ⟨hn, o, kxs', h2, g ρ' _ σ' c dd (Ext.unlock (o := o) h1 e) r2 (nn.ext0 e0) ⟨rx.1, ?_⟩⟩
      rcases rx.2 with q | ⟨d, fx, q1, q2, q3⟩
      · exact .inl q
      · exact .inr ⟨d, fx, q1, e0.xd d fx q2, q3.ext0 e0⟩
  | bad => exact g.elim
theorem ms_lock {st : Stmt} {f : Fs} {sel : En → Sto → Option Nat} (tk : Takes X W) (h : ∀ W' : WX, Takes X W' → MS L X W' st f) : MS L X W st (sLock sel f) := ⟨fun pins s σ H Dn I ⟨ρ, env, S, rs, re, g⟩ => by
  unfold sLock at g
  cases e0 : sel env S with
  | none => rw [e0] at g; exact g.elim
  | some n =>
    rw [e0] at g
    simp only at g
    cases e1 : dctW S n with
    | none => rw [e1] at g; exact g.elim
    | some kvs =>
      rw [e1] at g
      simp only at g
      have hS : S[n]? = some (.dct kvs) := by
        unfold dctW at e1
        split at e1
        · rename_i h
          cases e1
          exact h
        · cases e1
      obtain ⟨a, ha, _⟩ := rs.adr hS
      obtain ⟨kxs, h1, h2⟩ := dctW_at rs ha e1
      obtain ⟨od, I1⟩ := I.lock h1 True.intro
      have ec : Ext ρ H ρ (upd H a (.frz od (.dK kxs))) := .chg h1 True.intro
      have hn := I.nofrz h1 True.intro
      refine thn ((h (lkW X W a) (takes_lk tk a)).run pins s σ _ (lkD a Dn) I1 ⟨ρ, env, _, rs.set (u := .lkd kvs) ha ⟨od, kxs, upd_same, h2.ext ec⟩, re.ext ec, Gs.unl ha h1 hn g⟩) fun fl s1 q => ?_
      cases fl with
      | next => obtain ⟨σ', H', I2, o, kx, e, q⟩ := q; exact ⟨σ', _, I2.unlock e hn, q⟩
      | brk => obtain ⟨σ', H', I2, o, kx, e, q⟩ := q; exact ⟨σ', _, I2.unlock e hn, q⟩
      | cont => obtain ⟨σ', H', I2, o, kx, e, q⟩ := q; exact ⟨σ', _, I2.unlock e hn, q⟩
      | ret v => obtain ⟨x, σ', H', I2, r, o, kx, e, q⟩ := q; exact ⟨x, σ', _, I2.unlock e hn, r, q⟩⟩
/-- the same of an expression that raises nothing -/
def eLock (sel : En → Sto → Option Nat) (f : Fx D) : Fx D := fun env S => match sel env S with
  | some n => match dctW S n with
    | some kvs => match f env (S.set n (.lkd kvs)) with
      | .ok d S' => match unlS n S' with
        | some S2 => .ok d S2
        | none => .bad
      | _ => .bad
    | none => .bad
  | none => .bad
theorem me_lock {e : Expr} {f : Fx D} {sel : En → Sto → Option Nat} (h : ME L X W0 e f) : ME L X W e (eLock sel f) := ⟨fun pins s σ H Q I ⟨ρ, env, S, rs, re, g⟩ => by
  unfold eLock at g
  cases e0 : sel env S with
  | none => rw [e0] at g; exact g.elim
  | some n =>
    rw [e0] at g
    simp only at g
    cases e1 : dctW S n with
    | none => rw [e1] at g; exact g.elim
    | some kvs =>
      rw [e1] at g
      simp only at g
      have hS : S[n]? = some (.dct kvs) := by
        unfold dctW at e1
        split at e1
        · rename_i h
          cases e1
          exact h
        · cases e1
      obtain ⟨a, ha, _⟩ := rs.adr hS
      obtain ⟨kxs, h1, h2⟩ := dctW_at rs ha e1
      obtain ⟨od, I1⟩ := I.lock h1 True.intro
      have ec : Ext ρ H ρ (upd H a (.frz od (.dK kxs))) := .chg h1 True.intro
      have hn := I.nofrz h1 True.intro
      refine thn (h.run pins s σ _ (fun v H' => ∃ o kxs, H' a = some (.frz o (.dK kxs)) ∧ Q v (upd H' a (.dK kxs))) I1 ⟨ρ, env, _, rs.set (u := .lkd kvs) ha ⟨od, kxs, upd_same, h2.ext ec⟩, re.ext ec, ?_⟩) fun v s1 ⟨x, H', I2, r, o, kx, e, q⟩ => ⟨x, _, I2.unlock e hn, r, q⟩
      cases ef : f env (S.set n (.lkd kvs)) with
      | ok d S' =>
        rw [ef] at g
        simp only at g
        intro ρ' H' v ex r rv
        cases e2 : unlS n S' with
        | none => rw [e2] at g; exact g.elim
        | some S2 =>
          rw [e2] at g
          obtain ⟨o, kxs', h3, r2⟩ := unlS_at e2 r (pre_get ex.pre ha)
          exact ⟨o, kxs', h3, g ρ' _ v (Ext.unlock (o := o) h1 ex) r2 (rv.ext0 (.unl h3))⟩
      | ex x S' => rw [ef] at g; exact g.elim
      | bad => rw [ef] at g; exact g.elim⟩
end

/-! ### what is walked -/
def lkAt (S : Sto) (d : D) : Option (List (Key × D)) := match d with
  | .ref n => match S[n]? with
    | some (.lkd kvs) => some kvs
    | _ => none
  | _ => none
def iKeysF (f : Fx D) : Fx Wk := bnd f fun d => fun _ S => match lkAt S d with
  | some kvs => .ok (kvs.map fun kv => kD kv.1, fun _ => True) S
  | none => .bad
def iValsF (f : Fx D) : Fx Wk := bnd f fun d => fun _ S => match lkAt S d with
  | some kvs => .ok (kvs.map (·.2), fun _ => True) S
  | none => .bad
def iItemsF (f : Fx D) : Fx Wk := bnd f fun d => fun _ S => match lkAt S d with
  | some kvs => .ok (kvs.map fun kv => .tup [kD kv.1, kv.2], fun _ => True) S
  | none => .bad
section
variable {L : Ly} {X : Cx} {W : WX} {tg e : Expr} {fe : Fx D} {apos cpos : Pos}
theorem lkAt_at {K : PySem.W.Frag} {ρ : List Addr} {S : Sto} {H : Hp} (rs : RSt K L ρ S H) {d : D} {v : V} {kvs : List (Key × D)} (r : RV K H ρ d v) (h : lkAt S d = some kvs) :
    ∃ a o kxs, v = .ref a ∧ H a = some (.frz o (.dK kxs)) ∧ RKVs K H ρ kvs kxs := by
  unfold lkAt at h
  split at h
  · split at h
    · rename_i e
      cases h
      cases r with
      | @ref _ a ha =>
        obtain ⟨o, kxs, h1, h2⟩ := rs.ob _ _ _ e ha
        exact ⟨a, o, kxs, rfl, h1, h2⟩
    · cases h
  · cases h
theorem RKVs.get_ {K : PySem.W.Frag} {H : Hp} {ρ : List Addr} : ∀ {kvs : List (Key × D)} {kxs : List (Key × V)}, RKVs K H ρ kvs kxs → ∀ {i : Nat} {k : Key} {v : V}, kxs[i]? = some (k, v) → ∃ d, kvs[i]? = some (k, d) ∧ RV K H ρ d v
  | _, _, .nil, i, k, v, e => by simp at e
  | (a, d) :: r, (b, w) :: t, .cons ⟨e1, e2⟩ h, i, k, v, e => by
    cases i with
    | zero =>
      simp at e
      obtain ⟨rfl, rfl⟩ := e
      have e1' : a = b := e1
      subst e1'
      exact ⟨d, rfl, e2⟩
    | succ i => simpa using RKVs.get_ h (by simpa using e)
theorem mi_keys (he : ME L X W e fe) : MI L X W tg e (iKeysF fe) :=
  piI (pi_keys he) fun σ H R h => (tG.bind h).imp fun v H1 ⟨ρ1, env, S1, d, rs, re, rv, g1⟩ => by
    cases e0 : lkAt S1 d with
    | none => rw [e0] at g1; exact g1.elim
    | some kvs =>
      rw [e0] at g1
      obtain ⟨a, o, kxs, rfl, h1, h2⟩ := lkAt_at rs rv e0
      refine ⟨a, o, rfl, .inl ⟨kxs, h1, Gd.ok g1 rs ?_⟩⟩
      refine ⟨fun i ρ S H e rs hc hi => ⟨⟨e.hx.fzd _ _ _ h1, by rw [← h2.len]; simpa using hi⟩, fun x H' y => ?_⟩, fun i ρ S H e rs hc hi => ⟨e.hx.fzd _ _ _ h1, by rw [← h2.len]; simpa using hi⟩⟩
      obtain ⟨rfl, k, v, hk, rfl⟩ := y
      obtain ⟨dd, e1, e2⟩ := h2.get_ hk
      exact ⟨kD k, by simp only [List.getElem?_map, e1]; rfl, .refl _ _, rs, .key k⟩
theorem mi_vals (he : ME L X W e fe) (hbase : attributeBase e "values" X.env (eval e X.env) = eval e X.env := by rfl) (hline : (apos.endLine == cpos.line) = true := by rfl) : MI L X W tg (.Call (.Attribute e "values" apos) [] [] cpos) (iValsF fe) :=
  piI (pi_values he hbase hline) fun σ H R h => (tG.bind h).imp fun v H1 ⟨ρ1, env, S1, d, rs, re, rv, g1⟩ => by
    cases e0 : lkAt S1 d with
    | none => rw [e0] at g1; exact g1.elim
    | some kvs =>
      rw [e0] at g1
      obtain ⟨a, o, kxs, rfl, h1, h2⟩ := lkAt_at rs rv e0
      refine ⟨a, o, kxs, rfl, h1, Gd.ok g1 rs ?_⟩
      refine ⟨fun i ρ S H e rs hc hi => ⟨⟨e.hx.fzd _ _ _ h1, by rw [← h2.len]; simpa using hi⟩, fun x H' y => ?_⟩, fun i ρ S H e rs hc hi => ⟨e.hx.fzd _ _ _ h1, by rw [← h2.len]; simpa using hi⟩⟩
      obtain ⟨rfl, k, hk⟩ := y
      obtain ⟨dd, e1, e2⟩ := (h2.ext e).get_ hk
      exact ⟨dd, by simp only [List.getElem?_map, e1]; rfl, .refl _ _, rs, e2⟩
theorem mi_items {elts : List Expr} {kk : Nat} {tpos : Pos} (he : ME L X W e fe) (hbase : attributeBase e "items" X.env (eval e X.env) = eval e X.env := by rfl) (hline : (apos.endLine == cpos.line) = true := by rfl) : MI L X W (.Tuple elts kk tpos) (.Call (.Attribute e "items" apos) [] [] cpos) (iItemsF fe) :=
  piI (pi_items he hbase hline) fun σ H R h => (tG.bind h).imp fun v H1 ⟨ρ1, env, S1, d, rs, re, rv, g1⟩ => by
    cases e0 : lkAt S1 d with
    | none => rw [e0] at g1; exact g1.elim
    | some kvs =>
      rw [e0] at g1
      obtain ⟨a, o, kxs, rfl, h1, h2⟩ := lkAt_at rs rv e0
      refine ⟨a, o, kxs, rfl, h1, Gd.ok g1 rs ?_⟩
      refine ⟨fun i ρ S H e rs hc hi => ⟨⟨e.hx.fzd _ _ _ h1, by rw [← h2.len]; simpa using hi⟩, fun x H' y => ?_⟩, fun i ρ S H e rs hc hi => ⟨e.hx.fzd _ _ _ h1, by rw [← h2.len]; simpa using hi⟩⟩
      obtain ⟨T, k, v, hk, rfl, hT, rfl⟩ := y
      obtain ⟨dd, e1, e2⟩ := (h2.ext e).get_ hk
      have ex : Ext ρ H ρ (upd H T (.tup [kV k, v])) := .new0 hT
      exact ⟨.tup [kD k, dd], by simp only [List.getElem?_map, e1]; rfl, ex, rs.keep hT, .tup (.of upd_same) (.cons (.key k) (.cons (e2.ext ex) .nil))⟩
end
end Mi

set_option Elab.async false
set_option linter.all false
set_option maxRecDepth 100000
set_option maxHeartbeats 2000000
set_option autoImplicit false
/-! Mi15: isinstance, what a suite says of its exception, __init__ of exceptions -/
namespace PySem.W
open PySem PySem.Spec PySem.Calls PyProof.Rows
section
variable {prog : Program} {w : World} {A : Around} {E : Value → Shared → Prop} {s : Shared} {K : Frag} {x D : Addr} {ox : Obj} {od : Option Obj}
theorem findObj_dataO {C : Addr} {name : Str} {a g : Value} (hc : (clsIn K C).isSome = true) (ha : findIn K (.ref C) name = some (some a)) (hg : specialIn K a "__get__" = some (some g)) (ht : takesIn K a = some true) : findObj K C od name = some (.bind g a) := by
  obtain ⟨cd, hc⟩ := Option.isSome_iff_exists.mp hc
  unfold findObj
  rw [hc, Option.bind_some, ha, Option.bind_some]
  simp [hg, ht]
theorem kin_classO {Q : Option Value → Shared → Prop} (hga : findIn K (.ref D) "__getattribute__" = some (some (.builtin "BaseException.__getattribute__"))) (hgt : findIn K (.ref D) "__getattr__" = some none) (hsub : subIn K (.ref D) (.type "BaseException") = some true)
    (hdct : hasDictIn K D = true) (ha : findIn K (.ref D) "__class__" = some (some (.builtin "object.__class__")))
    (hn : specialIn K (.builtin "object.__class__") "__get__" = some (some (.builtin "getset_descriptor.__get__"))) (htk : takesIn K (.builtin "object.__class__") = some true) (hm : mroIn K D (.type "object") = some true)
    (X : K.In s.heap) (I : InstAt s.heap x ox D od) (h : Q (some (.ref D)) { s with toks := s.toks + 1 }) : wpAny (model prog w) A (getAttr? (.ref x) "__class__") Q E s := by
  have hf : findObj K D od "__class__" = some (.bind (.builtin "getset_descriptor.__get__") (.builtin "object.__class__")) := findObj_dataO (by obtain ⟨cd, hc, _⟩ := any_some hdct; rw [hc]; rfl) ha hn htk
  obtain ⟨hp, g, d, t, os⟩ := s
  have L0 := I.type (M := model prog w)
  have L1 := looks_findIn (M := model prog w) X hga
  have L2 := looks_findIn (M := model prog w) X hgt
  have L3 := looks_find (M := model prog w) X I hf
  have sub : Looks (model prog w) hp (isInstance (.ref x) (.type "BaseException")) true := L0.andThen (looks_subIn X hsub)
  have hx0 : (false && onTheHeap (Value.builtin "BaseException.__getattribute__")) = false := rfl
  have hx2 : (Value.builtin "BaseException.__getattribute__" == Value.builtin "object.__getattribute__") = false := by decide +kernel
  have hx1 : (onTheHeap (Value.ref D) && Value.builtin "BaseException.__getattribute__" == Value.builtin "object.__getattribute__") = false := by rw [hx2]; rfl
  unfold getAttr? getAttrBy? getAttrBy
  refine wpAny_bind (wpAny_mkText (wpAny_bind (wpAny_attempt (wpAny_holding (wpAny_bind (L0.at (wpAny_bind (L1.at ?_))))))))
  show wpAny _ _ (if (onTheHeap (Value.ref D) && Value.builtin "BaseException.__getattribute__" == Value.builtin "object.__getattribute__") = true then _ else _) _ _ _
  rw [hx1, if_neg Bool.false_ne_true]
  unfold getAttrByItsOwn hookBefore
  refine wpAny_bind ?_
  rw [if_pos (show onTheHeap (Value.ref D) = true from rfl)]
  refine L2.at ?_
  refine wpAny_bind (wpAny_attempt (wpAny_holding ?_))
  unfold callGetattribute
  rw [hx0, if_neg Bool.false_ne_true]
  unfold boundAndCalled
  rw [PySem.F.excAttr_ValueError.ga.bind (.ref x)]
  refine wpAny_bind (wpAny_pure ?_)
  show wpAny _ _ (call (.builtin "BaseException.__getattribute__") [.ref x, .str "__class__" t]) _ _ _
  refine wpAny_call (codeAny_call_builtin PySem.F.excAttr_ValueError.ga.plain PySem.F.entry_bexc_ga ?_)
  refine @check_slot (model prog w) _ _ ⟨hp, g, d, t + 1, os⟩ "BaseException.__getattribute__" "BaseException" "__getattribute__" (.ref x) [.str "__class__" t] [] _ (by decide +kernel) (by decide +kernel) sub (PySem.F.args_bexc_ga (.ref x) (.str "__class__" t)) ?_
  unfold Builtin.«object.__getattribute__»
  refine wpAny_bind (wpAny_of_eq (a := ((Value.ref x : Value), [Value.str "__class__" t])) (by first | rfl | (simp only [slotArgs]; rfl)) ?_)
  refine wpAny_bind (wpAny_pure (wpAny_bind (L0.at (wpAny_bind (L3.at ?_)))))
  show wpAny _ _ (holding [Value.builtin "object.__class__"] (call (.builtin "getset_descriptor.__get__") [.builtin "object.__class__", .ref x, .ref D]) >>= ret) _ _ _
  refine wpAny_bind (wpAny_holding (wpAny_call (class_get (s := ⟨hp, g, d, t + 1, os⟩) (ox := ox) (od := od) X I hm ?_)))
  refine wpAny_pure ?_
  show wpAny _ _ (handedOut (.ref D)) _ _ _
  rw [handedOut_of (v := .ref D) rfl]
  first
    | exact wpAny_pure (wpAny_pure h)
    | exact wpAny_pure h
    | exact wpAny_pure (wpAny_bind (wpAny_pure (wpAny_pure h)))
theorem kitx_excO (hga : findIn K (.ref D) "__getattribute__" = some (some (.builtin "BaseException.__getattribute__"))) (hgt : findIn K (.ref D) "__getattr__" = some none) (hsub : subIn K (.ref D) (.type "BaseException") = some true) (hdct : hasDictIn K D = true) (ha : findIn K (.ref D) "__class__" = some (some (.builtin "object.__class__")))
    (hn : specialIn K (.builtin "object.__class__") "__get__" = some (some (.builtin "getset_descriptor.__get__"))) (htk : takesIn K (.builtin "object.__class__") = some true) (hm : mroIn K D (.type "object") = some true) :
    KitX K (.ref x) (.ref D) (fun h => InstAt h x ox D od) where
  ty := fun _ _ _ I => I.type
  it := fun _ _ X _ => by
    obtain ⟨cdD, hcD, _⟩ := any_some hdct
    unfold clsIn at hcD
    split at hcD
    · rename_i c' d' cd' sl' ho
      intro A' Q' E' s' k q
      unfold isType loadHead
      exact wpAny_bind (wpAny_loadPart (k _ _ (X _ _ ho)) (wpAny_pure q))
    · cases hcD
  ne := fun h tp dd its n sl X htp => by
    obtain ⟨cdD, hcD, _⟩ := any_some hdct
    refine Bool.eq_false_iff.mpr fun q => ?_
    have e : D = tp := Value.ref.inj (beq_iff_eq.mp q)
    subst e
    unfold clsIn at hcD
    split at hcD
    · rename_i c' d' cd' sl' ho
      have z := (X _ _ ho).symm.trans htp
      cases z
    · cases hcD
  ca := fun X I k => kin_classO hga hgt hsub hdct ha hn htk hm X I k
end
end PySem.W

namespace Mi
open PySem PySem.Spec L2 PyProof.Rows

/-! ### isinstance(x, T) -/
def typeN (S : Sto) : D → Option String
  | .non => some "NoneType"
  | .bl _ => some "bool"
  | .int _ => some "int"
  | .str _ => some "str"
  | .tup _ => some "tuple"
  | .frl _ => some "list"
  | .ref n => match S[n]? with
    | some (.lst _) => some "list"
    | some (.dct _) => some "dict"
    | some (.lkd _) => some "dict"
    | _ => none
def isiB (a T : String) : Bool := a == T || (a == "bool" && T == "int")
def vIsi (T : String) (d : D) (S : Sto) : Ou D := match typeN S d with
  | some a => .ok (.bl (isiB a T)) S
  | none => .bad
structure IsiT (T : String) : Prop where
  ok : ∀ a ∈ ["NoneType", "bool", "int", "str", "tuple", "list", "dict"], kitB a T = some (isiB a T)
theorem isiT_int : IsiT "int" := ⟨by decide +kernel⟩
theorem isiT_str : IsiT "str" := ⟨by decide +kernel⟩
theorem isiT_bool : IsiT "bool" := ⟨by decide +kernel⟩
theorem isiT_tuple : IsiT "tuple" := ⟨by decide +kernel⟩
theorem isiT_list : IsiT "list" := ⟨by decide +kernel⟩
theorem isiT_dict : IsiT "dict" := ⟨by decide +kernel⟩
section
variable {L : Ly} {X : Cx} {W : WX} {e : Expr} {fe : Fx D} {p q pos : Pos} {T : String}
theorem typeN_at {K : PySem.W.Frag} {ρ : List Addr} {S : Sto} {H : Hp} (rs : RSt K L ρ S H) {d : D} {v : V} {a : String} (r : RV K H ρ d v) (h : typeN S d = some a) : TyX K H v (.type a) ∧ a ∈ ["NoneType", "bool", "int", "str", "tuple", "list", "dict"] := by
  cases r with
  | non => cases h; exact ⟨.base .non, by simp⟩
  | bl b => cases h; exact ⟨.base (.bl b), by simp⟩
  | int i => cases h; exact ⟨.base (.int i), by simp⟩
  | str x => cases h; exact ⟨.base (.str x), by simp⟩
  | tup h1 h2 =>
    cases h
    refine ⟨?_, by simp⟩
    rcases h1 with (h | ⟨o, h⟩) | ⟨o, its, n, e1, e2, _⟩
    · exact .base (.tup h)
    · exact .fTuple h
    · exact .kTuple e1 e2
  | frl h1 h2 =>
    cases h
    refine ⟨?_, by simp⟩
    rcases h1 with ⟨o, h⟩ | ⟨o, its, n, e1, e2, _⟩
    · exact .base (.frz h)
    · exact .kList e1 e2
  | ref ha =>
    simp only [typeN] at h
    split at h
    · rename_i e0
      cases h
      obtain ⟨xs, h1, h2⟩ := rs.ob _ _ _ e0 ha
      exact ⟨.base (.lst h1), by simp⟩
    · rename_i e0
      cases h
      obtain ⟨xs, h1, h2⟩ := rs.ob _ _ _ e0 ha
      exact ⟨.base (.dK h1), by simp⟩
    · rename_i e0
      cases h
      obtain ⟨o, xs, h1, h2⟩ := rs.ob _ _ _ e0 ha
      exact ⟨.fDict h1, by simp⟩
    · cases h
theorem me_isi (hT : IsiT T) (hg : Gl X "isinstance") (hm : X.mg "isinstance" = none) (hgT : Gl X (Str.ofString T)) (hmT : X.mg (Str.ofString T) = none) (hbT : bootBuiltins (Str.ofString T) = some (.type T)) (he : ME L X W e fe)
    (hnT : Str.ofString T ≠ "__name__" := by decide) (hdT : (Str.ofString T == ("__debug__" : Str)) = false := by decide)
    (hs : starEach [e, .Name (Str.ofString T) q] X.env = (false, eval e X.env) :: starEach [.Name (Str.ofString T) q] X.env := by rfl) (hs2 : starEach [.Name (Str.ofString T) q] X.env = (false, eval (.Name (Str.ofString T) q) X.env) :: starEach [] X.env := by rfl)
    (hpl : (backTo pos (starEach [.Name (Str.ofString T) q] X.env)).any (·.1) = false := by rfl) : ME L X W (.Call (.Name "isinstance" p) [e, .Name (Str.ofString T) q] [] pos) (op1 (vIsi T) fe) :=
  peI (pe_callB call_isi hg hm PyProof.Rows.Boot.«isinstance» (pa_cons he (pa_cons (pe_bltn hgT hmT hbT (v := .ty T) rfl hnT hdT) pa_nil hs2) hs) (by decide) (by decide) hs hpl) fun σ H Q h => (one h).imp fun x H1 ⟨Wh, ρ, S, d, rs, rv, g⟩ => by
    unfold vIsi at g
    cases e1 : typeN S d with
    | none => rw [e1] at g; exact g.elim
    | some a =>
      rw [e1] at g
      obtain ⟨t1, t2⟩ := typeN_at rs rv e1
      exact ⟨_, _, _, _, _, rfl, .ty T, t1, kit_ty (hT.ok a t2), Gd.ok g rs (.bl _)⟩
end

/-! ### in the suite of a named clause -/
/-- isinstance(e, C) -/
def eXis (i : Nat) (tbl : List (Nat × Bool)) (x : Xc) : Fx D := fun env S => match env[i]? with
  | some none => match tbl.lookup x.c with
    | some b => .ok (.bl b) S
    | none => .bad
  | _ => .bad
/-- e.f -/
def eXf (i : Nat) (tbl : List (Nat × Nat)) (x : Xc) : Fx D := fun env S => match env[i]? with
  | some none => match tbl.lookup x.c with
    | some j => match x.fs[j]? with
      | some (some d) => .ok d S
      | _ => .bad
    | none => .bad
  | _ => .bad
section
variable {L : Ly} {X : Cx} {n : Str} {i : Nat} {a : Addr} {oe : Obj} {cls : Value} {d : Option Addr} {pn : List (Addr × Obj)} {x : Xc} {p q pos : Pos}
structure XisT (X : Cx) (L : Ly) (u : Value) (tbl : List (Nat × Bool)) : Prop where
  ok : ∀ c b, tbl.lookup c = some b → ExcC X.K (L.ct c) ∧ PySem.W.kitOne X.K (.ref (L.ct c)) u = some b
def rIsX (K : PySem.W.Frag) (a D : Addr) (d : Option Addr) : List V → Hp → VK → Prop := fun xs H Q => ∃ (c : V) (cv : Value) (b : Bool), xs = [.ref a, c] ∧ (∀ u, RelV c u → u = cv) ∧ (d = none ∨ ∃ dd fx, d = some dd ∧ H dd = some (.xd fx)) ∧ PySem.W.kitOne K (.ref D) cv = some b ∧ Q (.bl b) H
theorem call_isX {D : Addr} (C : ExcC X.K D) (hz : Zc (.ref D) d oe) (hf : ∃ vs, oe.data = .fields vs) : CallR (X.suite a ((a, oe) :: pn)) (.builtin "isinstance") (rIsX X.K a D d) := by
  intro pins s σ H xs us Q I r h
  obtain ⟨c, cv, b, rfl, hcv, hd, e, q⟩ := h
  cases r with
  | cons rx rr =>
    cases rr with
    | cons rt rr =>
      cases rr
      cases rx
      have ec := hcv _ rt
      subst ec
      obtain ⟨hget, _⟩ := I.pin (a, oe) (List.mem_append.mpr (.inl List.mem_cons_self))
      obtain ⟨vs, hv⟩ := hf
      rcases hd with hd | ⟨dd, fx, hd, hx⟩
      · subst hd
        have J : PySem.W.InstAt s.heap a oe D none := by
          obtain ⟨oc, od, oda, osl⟩ := oe
          obtain ⟨h1, h2⟩ := hz
          dsimp only at h1 h2 hv
          subst h1 h2 hv
          exact ⟨hget, rfl, rfl, trivial⟩
        exact PySem.W.kia_one (PySem.W.kitx_excO C.hg C.hk C.hs C.hd C.ha C.hn C.ht C.hm) I.kIn J e (fun z => nomatch z) fun tk => ⟨.bl b, H, I.kept (t' := tk) fun _ _ z => z, rfl, q⟩
      · subst hd
        have hx' : ObjOk X.prog X.w H s.heap dd (.xd fx) := I.hok dd _ hx
        obtain ⟨mA, hns, hr⟩ := hx'
        obtain ⟨od, ho, hl⟩ := lookIn_ns hns
        have J : PySem.W.InstAt s.heap a oe D (some od) := ⟨hget, hz.1, by unfold PySem.W.notCls; rw [hv] <;> rfl, by rw [hz.2]; exact ho⟩
        exact PySem.W.kia_one (PySem.W.kitx_excO C.hg C.hk C.hs C.hd C.ha C.hn C.ht C.hm) I.kIn J e (fun z => nomatch z) fun tk => ⟨.bl b, H, I.kept (t' := tk) fun _ _ z => z, rfl, q⟩
theorem me_xis {C : Str} {u : Value} {c : V} {tbl : List (Nat × Bool)} (T : XisT X L u tbl) (hcl : cls = .ref (L.ct x.c)) (hz : Zc cls d oe) (hf : ∃ vs, oe.data = .fields vs) (hN : X.N[i]? = some n) (hv : Vis X.env.scope n) (hg : Gl X "isinstance") (hm : X.mg "isinstance" = none)
    (hC : PE (X.suite a ((a, oe) :: pn)) (.Name C q) (tC c)) (hcu : ∀ w, RelV c w → w = u) (hd : (n == ("__debug__" : Str)) = false := by decide) (hcd : (n == ("__classdict__" : Str)) = false := by decide)
    (hs : starEach [.Name n p, .Name C q] X.env = (false, eval (.Name n p) X.env) :: starEach [.Name C q] X.env := by rfl) (hs2 : starEach [.Name C q] X.env = (false, eval (.Name C q) X.env) :: starEach [] X.env := by rfl)
    (hpl : (backTo pos (starEach [.Name C q] X.env)).any (·.1) = false := by rfl) {p0 : Pos} :
    ME (L.at ⟨i, a, x, cls, d⟩) (X.suite a ((a, oe) :: pn)) W0 (.Call (.Name "isinstance" p0) [.Name n p, .Name C q] [] pos) (eXis i tbl x) := by
  subst hcl
  refine ⟨fun pins s σ H Q I ⟨ρ, env, S, rs, re, g⟩ => ?_⟩
  unfold eXis at g
  cases e0 : env[i]? with
  | none => rw [e0] at g; exact g.elim
  | some o =>
    cases o with
    | some y => rw [e0] at g; exact g.elim
    | none =>
      rw [e0] at g
      simp only at g
      cases e1 : tbl.lookup x.c with
      | none => rw [e1] at g; exact g.elim
      | some b =>
        rw [e1] at g
        obtain ⟨hσ, rx⟩ := re.zz _ rfl e0
        obtain ⟨t1, t2⟩ := T.ok _ _ e1
        refine (pe_callB (call_isX (pn := pn) t1 hz hf) hg hm PyProof.Rows.Boot.«isinstance» (pa_cons (pe_var (X := X.suite a ((a, oe) :: pn)) hN hv hd hcd) (pa_cons hC pa_nil hs2) hs) (by decide) (by decide) hs hpl).run pins s σ H Q I ?_
        refine ⟨.ref a, hσ, c, u, b, rfl, hcu, ?_, t2, Gd.ok g rs (.bl b)⟩
        rcases rx.2 with z | ⟨dd, fx, z1, z2, _⟩
        · exact .inl z.2
        · exact .inr ⟨dd, fx, z1, z2⟩
structure XfT (X : Cx) (L : Ly) (f : Str) (tbl : List (Nat × Nat)) : Prop where
  ok : ∀ c j, tbl.lookup c = some j → (L.fn c)[j]? = some f ∧ XfC X.K (L.ct c) ∧ PySem.W.findIn X.K (.ref (L.ct c)) f = some none
theorem me_xf {f : Str} {tbl : List (Nat × Nat)} (T : XfT X L f tbl) (hcl : cls = .ref (L.ct x.c)) (hz : Zc cls d oe) (hf : ∃ vs, oe.data = .fields vs) (hN : X.N[i]? = some n) (hv : Vis X.env.scope n) (hd : (n == ("__debug__" : Str)) = false := by decide) (hcd : (n == ("__classdict__" : Str)) = false := by decide)
    (hb : attributeBase (.Name n p) f X.env (eval (.Name n p) X.env) = eval (.Name n p) X.env := by rfl) : ME (L.at ⟨i, a, x, cls, d⟩) (X.suite a ((a, oe) :: pn)) W0 (.Attribute (.Name n p) f pos) (eXf i tbl x) := by
  refine ⟨fun pins s σ H Q I ⟨ρ, env, S, rs, re, g⟩ => ?_⟩
  unfold eXf at g
  cases e0 : env[i]? with
  | none => rw [e0] at g; exact g.elim
  | some o =>
    cases o with
    | some y => rw [e0] at g; exact g.elim
    | none =>
      rw [e0] at g
      simp only at g
      cases e1 : tbl.lookup x.c with
      | none => rw [e1] at g; exact g.elim
      | some j =>
        rw [e1] at g
        simp only at g
        cases e2 : x.fs[j]? with
        | none => rw [e2] at g; exact g.elim
        | some o =>
          cases o with
          | none => rw [e2] at g; exact g.elim
          | some y =>
            rw [e2] at g
            obtain ⟨hσ, rx⟩ := re.zz _ rfl e0
            obtain ⟨t1, t2, t3⟩ := T.ok _ _ e1
            refine (pe_xf (X := X) (pn := pn) t2 t3 hz hf (pe_var (X := X.suite a ((a, oe) :: pn)) hN hv hd hcd) hb).run pins s σ H Q I ⟨.ref a, hσ, rfl, hcl, ?_⟩
            rcases rx.2 with z | ⟨dd, fx, z1, z2, z3⟩
            · have z' : x.fs = [] := z.1
              rw [z'] at e2
              cases e2
            · have rf := z3.at_ j f t1
              have e2' : x.fs[j]?.join = some y := by rw [e2]; rfl
              have rf' : RF X.K H ρ (some y) (fx.lookup f) := by rw [← e2']; exact rf
              obtain ⟨v, hv', rv⟩ := RF.someD rf'
              exact ⟨dd, fx, v, z1, z2, hv', Gd.ok g rs rv⟩
end

/-! ### __init__ of a class of errors -/
section
variable {P : Program} {w : World} {K : PySem.W.Frag} {mg : Str → Option Value} {base : Heap}
theorem xi_one {x qual : Str} {st : Stmt} {f C : Addr} {fd : FuncData} {N ps : List Str} {k : Nat} {f1 : Str} (F : L2.Fun K x qual st f fd) (sc : FnScope N ps (defScope st)) (b : Binds K fd ps []) (hn : ps.length = 2) (hN : 2 ≤ N.length) (T : OexC K C) (h1 : PySem.W.findIn K (.ref C) f1 = some none)
    (h : ∀ (cdv : Value) (A : Around) (outer : List Env) (s : Shared) (H : Hp) (E : XK), PSs (bodyCx P w K mg base N qual st f cdv A outer s H E) (defBody st) (tOst K f1 (tVar 0) (tVar 1))) :
    FnOk P w K mg base (L2.CX P w) (k + 1) f fd ps (spXi C [f1]) :=
  F.okX sc (fun vs H Q E ⟨a, ws, e, hl, _⟩ => by rw [hn, e]; simp at hl; simp [hl]) fun cdv A outer s H vs Q E hr ⟨a, ws, e, hl, ha, q⟩ => by
    subst e
    obtain ⟨y, rfl⟩ : ∃ y, ws = [y] := by
      match ws, hl with
      | [y], _ => exact ⟨y, rfl⟩
    refine ⟨_, h cdv A outer s H E, y, ?_, .ref a, ?_, a, C, rfl, T, h1, .inl ⟨ha, fun dx hd ne => q dx hd ne⟩⟩
    all_goals
      unfold L2.start
      simp
theorem tS_two {X : Cx} {a b : Stmt} {t u : TS} (h1 : PS X a t) (h2 : PS X b u) : PSs X [a, b] (fun D σ H => t { D with nx := fun σ' H' => u D σ' H' } σ H) := pss_cons h1 (pss_one h2)
theorem xi_two {x qual : Str} {st : Stmt} {f C : Addr} {fd : FuncData} {N ps : List Str} {k : Nat} {f1 f2 : Str} (F : L2.Fun K x qual st f fd) (sc : FnScope N ps (defScope st)) (b : Binds K fd ps []) (hn : ps.length = 3) (hN : 3 ≤ N.length) (T : OexC K C) (h1 : PySem.W.findIn K (.ref C) f1 = some none) (h2 : PySem.W.findIn K (.ref C) f2 = some none)
    (h : ∀ (cdv : Value) (A : Around) (outer : List Env) (s : Shared) (H : Hp) (E : XK), PSs (bodyCx P w K mg base N qual st f cdv A outer s H E) (defBody st) (fun D σ H => tOst K f1 (tVar 0) (tVar 1) { D with nx := fun σ' H' => tOst K f2 (tVar 0) (tVar 2) D σ' H' } σ H)) :
    FnOk P w K mg base (L2.CX P w) (k + 1) f fd ps (spXi C [f1, f2]) :=
  F.okX sc (fun vs H Q E ⟨a, ws, e, hl, _⟩ => by rw [hn, e]; simp at hl; simp [hl]) fun cdv A outer s H vs Q E hr ⟨a, ws, e, hl, ha, q⟩ => by
    subst e
    obtain ⟨y, z, rfl⟩ : ∃ y z, ws = [y, z] := by
      match ws, hl with
      | [y, z], _ => exact ⟨y, z, rfl⟩
    refine ⟨_, h cdv A outer s H E, y, ?_, .ref a, ?_, a, C, rfl, T, h1, .inl ⟨ha, fun dx hd ne => ⟨z, ?_, .ref a, ?_, a, C, rfl, T, h2, .inr ⟨dx, [(f1, y)], upd_same, ?_, by simp, ?_⟩⟩⟩⟩
    any_goals
      unfold L2.start
      simp
      done
    · rw [upd_ne ne, upd_same]
    · exact q dx hd ne
end
end Mi

set_option Elab.async false
set_option linter.all false
set_option maxRecDepth 100000
set_option maxHeartbeats 2000000
set_option autoImplicit false
/-! Mi16: links -/
namespace Mi
open PySem PySem.Spec L2 PyProof.Rows

theorem u1 {k : Nat} {A : Around} (r : Room k A) : A.units + 1 < cLine := by have := r.un; omega
theorem u64 {k : Nat} {A : Around} (r : Room k A) : A.units + 64 < cLine := by have := r.un; omega
theorem u65 {k : Nat} {A : Around} (r : Room k A) : A.units + 65 < cLine := by have := r.un; omega
theorem FldOk.nil {K : PySem.W.Frag} {L : Ly} {f : Str} : FldOk K L f [] := ⟨fun _ _ h => by cases h⟩
theorem FldOk.cons {K : PySem.W.Frag} {L : Ly} {f : Str} {c i : Nat} {t : List (Nat × Nat)} (h1 : (L.fn c)[i]? = some f) (h2 : Cls K (L.ct c)) (h3 : NoAttr K (L.ct c) f) (h : FldOk K L f t) : FldOk K L f ((c, i) :: t) := ⟨fun d j e => by
  rw [List.lookup_cons] at e
  by_cases hd : d = c
  · subst hd
    simp at e
    subst e
    exact ⟨h1, h2, h3⟩
  · have q : (d == c) = false := beq_eq_false_iff_ne.mpr hd
    rw [q] at e
    exact h.ok d j e⟩
section
variable (P : Program) (w : World) (K : PySem.W.Frag) (mg : Str → Option Value) (base : Heap) (L : Ly)
/-- a def by its global name -/
def Gn (x : Str) (k n : Nat) (F : Fn) : Prop := ∃ f, mg x = some (.ref f) ∧ PySem.W.keepIn K (.ref f) = true ∧ FnM P w K mg base L k f n F
/-- a method -/
def Mn (c : Nat) (m : Str) (k n : Nat) (F : Fn) : Prop := Cls K (L.ct c) ∧ m ∉ L.fn c ∧ ∃ f, Meth K (L.ct c) m f ∧ FnM P w K mg base L k f (n + 1) F
/-- a class that makes -/
def Kn (x : Str) (k c nf n : Nat) (F : Fn) : Prop := mg x = some (.ref (L.ct c)) ∧ ((L.fn c).length = nf ∧ nf ≤ 64 ∧ (L.fn c).Nodup) ∧ ∃ f, Mk K (L.ct c) f ∧ FnM P w K mg base L k f (n + 1) F
/-- a class of errors with an own __init__ -/
def Xn (x : Str) (c : Nat) (ns : List Str) (k : Nat) : Prop := mg x = some (.ref (L.ct c)) ∧ OexC K (L.ct c) ∧ L.fn c = ns ∧ (ns.length ≤ 64 ∧ ns.Nodup ∧ ns ≠ []) ∧
  ∃ fI fd ps, PySem.W.findIn K (.ref (L.ct c)) "__init__" = some (some (.ref fI)) ∧ PySem.W.typeIn K (.ref fI) = some (.type "function") ∧ FnOk P w K mg base (L2.CX P w) k fI fd ps (spXi (L.ct c) ns) ∧ L2.Binds K fd ps []
end
section
variable {X : Cx} {L : Ly} {x m : Str} {k n c nf : Nat} {F : Fn}
theorem Gn.ok (h : Gn X.prog X.w X.K X.mg X.base L x k n F) : GlF X L x k n F := ⟨h⟩
theorem Mn.ok (h : Mn X.prog X.w X.K X.mg X.base L c m k n F) : MtOk X L m k [(c, n, F)] := ⟨fun d i G e => by
  rw [List.lookup_cons] at e
  by_cases hd : d = c
  · subst hd
    simp at e
    obtain ⟨rfl, rfl⟩ := e
    exact h
  · have q : (d == c) = false := beq_eq_false_iff_ne.mpr hd
    rw [q] at e
    cases e⟩
theorem Mn.cons {t : List (Nat × Nat × Fn)} (h : Mn X.prog X.w X.K X.mg X.base L c m k n F) (r : MtOk X L m k t) : MtOk X L m k ((c, n, F) :: t) := ⟨fun d i G e => by
  rw [List.lookup_cons] at e
  by_cases hd : d = c
  · subst hd
    simp at e
    obtain ⟨rfl, rfl⟩ := e
    exact h
  · have q : (d == c) = false := beq_eq_false_iff_ne.mpr hd
    rw [q] at e
    exact r.ok d i G e⟩
theorem Kn.ok (h : Kn X.prog X.w X.K X.mg X.base L x k c nf n F) : MkOk X L x k c nf n F := ⟨h.1, h.2.1, h.2.2⟩
theorem Xn.ok {ns : List Str} (h : Xn X.prog X.w X.K X.mg X.base L x c ns k) : XiOk X L x c ns k := ⟨h.1, h.2.1, h.2.2.1, h.2.2.2.1, h.2.2.2.2⟩
theorem lk_mem {β : Type} {c : Nat} {b : β} : ∀ {l : List (Nat × β)}, l.lookup c = some b → (c, b) ∈ l
  | [], h => by cases h
  | (d, e) :: r, h => by
    rw [List.lookup_cons] at h
    by_cases q : c = d
    · subst q
      simp at h
      subst h
      exact List.mem_cons_self
    · have z : (c == d) = false := beq_eq_false_iff_ne.mpr q
      rw [z] at h
      exact List.mem_cons_of_mem _ (lk_mem h)
theorem ExT.mk1 {u : Value} {tbl : List (Nat × Bool)} (h : Names X x u) (t : ∀ p ∈ tbl, PySem.W.exmOne X.K (.ref (L.ct p.1)) u = some p.2) : ExT X L x tbl := ⟨u, h, fun c b e => t (c, b) (lk_mem e)⟩
theorem XisT.mk1 {u : Value} {tbl : List (Nat × Bool)} (t : ∀ p ∈ tbl, ExcC X.K (L.ct p.1) ∧ PySem.W.kitOne X.K (.ref (L.ct p.1)) u = some p.2) : XisT X L u tbl := ⟨fun c b e => t (c, b) (lk_mem e)⟩
theorem XfT.mk1 {tbl : List (Nat × Nat)} (t : ∀ p ∈ tbl, (L.fn p.1)[p.2]? = some x ∧ XfC X.K (L.ct p.1) ∧ PySem.W.findIn X.K (.ref (L.ct p.1)) x = some none) : XfT X L x tbl := ⟨fun c b e => t (c, b) (lk_mem e)⟩
theorem FnM.mono {P : Program} {w : World} {K : PySem.W.Frag} {mg : Str → Option Value} {base : Heap} {j : Nat} {f : Addr} (h : FnM P w K mg base L j f n F) (hj : j ≤ k) : FnM P w K mg base L k f n F := by
  obtain ⟨fd, ps, G, b⟩ := h
  exact ⟨fd, ps, G.mono hj, b⟩
end
/-- two ways to read it -/
def orF {α : Type} (f g : Fx α) : Fx α := fun env S => match f env S with
  | .bad => g env S
  | o => o
theorem me_alt {L : Ly} {X : Cx} {W : WX} {e : Expr} {f g : Fx D} (h1 : ME L X W e f) (h2 : ME L X W e g) : ME L X W e (orF f g) := ⟨fun pins s σ H Q I ⟨ρ, env, S, rs, re, q⟩ => by
  unfold orF at q
  cases e1 : f env S with
  | bad => rw [e1] at q; exact h2.run pins s σ H Q I ⟨ρ, env, S, rs, re, q⟩
  | ok d S' => rw [e1] at q; exact h1.run pins s σ H Q I ⟨ρ, env, S, rs, re, by rw [e1]; exact q⟩
  | ex x S' => rw [e1] at q; exact h1.run pins s σ H Q I ⟨ρ, env, S, rs, re, by rw [e1]; exact q⟩⟩
/-! ### the law's own def -/
theorem law_sp {L : Ly} {F : Fn} (hF : ∀ (ns : List Int), ns.length ≤ 63 → ∃ S', F [.frl (ns.map D.int)] [] = .ok (.bl true) S') (K : PySem.W.Frag) (H : Hp) (a : Addr) (ns : List Int) (hl : ns.length ≤ 63) (ho : Only H) (hs0 : SqL K H a (ns.map V.int)) :
    spM K L 1 F [.ref a] H (fun v _ => v = .bl true) fun _ _ _ => False := by
  have hs : Frl K H a (ns.map V.int) := by
    rcases hs0 with (h | h) | h
    · rcases ho a with z | ⟨o, xs, z⟩
      · rw [h] at z; cases z
      · rw [h] at z; cases z
    · exact .inl h
    · exact .inr h
  obtain ⟨S', e⟩ := hF ns hl
  refine ⟨rfl, [], [], [.frl (ns.map D.int)], ⟨rfl, List.nodup_nil, fun n o a h => by simp at h⟩, .cons (.frl hs (RVs.ints ns)) .nil, ?_⟩
  rw [e]
  intro ρ' H' v _ _ rv
  cases rv
  rfl
end Mi

set_option Elab.async false
set_option linter.all false
set_option maxRecDepth 100000
set_option maxHeartbeats 2000000
set_option autoImplicit false
/-! Mi17: links, more -/
namespace Mi
open PySem PySem.Spec L2 PyProof.Rows
def ConstV (K : PySem.W.Frag) (d : D) (u : Value) : Prop := ∃ v, RelV v u ∧ ∀ H ρ, RV K H ρ d v
theorem ConstV.int {K : PySem.W.Frag} (i : Int) (t : Tok) : ConstV K (.int i) (.int i t) := ⟨.int i, ⟨t, rfl⟩, fun _ _ => .int i⟩
theorem ConstV.str {K : PySem.W.Frag} (x : Str) (t : Tok) : ConstV K (.str x) (.str x t) := ⟨.str x, ⟨t, rfl⟩, fun _ _ => .str x⟩
theorem me_const {L : Ly} {X : Cx} {W : WX} {x : Str} {d : D} {pos : Pos} (hg : Gl X x) (h : ∃ u, X.mg x = some u ∧ ConstV X.K d u) (hd : (x == ("__debug__" : Str)) = false := by decide) : ME L X W (.Name x pos) (eC d) := by
  obtain ⟨u, hm, v, r, rd⟩ := h
  exact me_glob hg hm r rd hd
/-- a class of errors without an own __init__ -/
def XcF (K : PySem.W.Frag) (mg : Str → Option Value) (L : Ly) (x : Str) (c : Nat) : Prop := mg x = some (.ref (L.ct c)) ∧ PySem.W.excIn K (L.ct c) [.type "ValueError", .type "Exception", .type "BaseException", .type "object"] "ValueError.__new__" = true ∧
  PySem.W.keepIn K (.ref (L.ct c)) = true ∧ PySem.W.subIn K (.ref (L.ct c)) (.type "BaseException") = some true ∧ PySem.W.typeIn K (.ref (L.ct c)) = some (.type "type")
theorem XcF.ok {X : Cx} {L : Ly} {x : Str} {c : Nat} (h : XcF X.K X.mg L x c) : XcOk X L x c := ⟨h.1, h.2.1, h.2.2.1, h.2.2.2.1, h.2.2.2.2⟩
def FG (K : PySem.W.Frag) (mg : Str → Option Value) (x qual : Str) (st : Stmt) : Prop := ∃ f fd, mg x = some (.ref f) ∧ Fun K x qual st f fd
def FM (K : PySem.W.Frag) (C : Addr) (m qual : Str) (st : Stmt) : Prop := ∃ f fd, Cls K C ∧ Meth K C m f ∧ Fun K m qual st f fd
def FI (K : PySem.W.Frag) (C : Addr) (qual : Str) (st : Stmt) : Prop := ∃ f fd, Cls K C ∧ Mk K C f ∧ Fun K "__init__" qual st f fd
section
variable {K : PySem.W.Frag} {h : Heap} {mg : Str → Option Value}
theorem gl_mk (X : K.In h) (G : h.Ns mainGlobals mg) {x qual : Str} {st : Stmt} {f : Addr} {oc : Value} {od an : Option Addr} {osl : Array (Option Value)} {kV doc pm cdv ct : Value} (a : PySem.W.nsIn K mainGlobals x = some (some (.ref f)))
    (l : K.lookup f = some ⟨oc, od, .func (PySem.W.fnOf x qual (defArgs st) (defBody st) (defScope st) .none kV doc pm an cdv ct), osl⟩) (c : PySem.W.codeIn K cdv qual = true) (k : PySem.W.keepIn K (.ref f) = true) : FG K mg x qual st :=
  ⟨f, _, PySem.W.mg_of X G a, fun_mk l c k⟩
theorem me_mk {C : Addr} (cl : Cls K C) {x qual : Str} {st : Stmt} {f : Addr} {oc : Value} {od an : Option Addr} {osl : Array (Option Value)} {kV doc pm cdv ct : Value} (a : PySem.W.findIn K (.ref C) x = some (some (.ref f))) (i : PySem.W.isFn K (.ref f) = true)
    (l : K.lookup f = some ⟨oc, od, .func (PySem.W.fnOf x qual (defArgs st) (defBody st) (defScope st) .none kV doc pm an cdv ct), osl⟩) (c : PySem.W.codeIn K cdv qual = true) (k : PySem.W.keepIn K (.ref f) = true) : FM K C x qual st :=
  ⟨f, _, cl, ⟨a, i, k⟩, fun_mk l c k⟩
theorem in_mk {C : Addr} (cl : Cls K C) (mk : PySem.W.makesIn K C = true) (kc : PySem.W.keepIn K (.ref C) = true) {qual : Str} {st : Stmt} {f : Addr} {oc : Value} {od an : Option Addr} {osl : Array (Option Value)} {kV doc pm cdv ct : Value} (a : PySem.W.findIn K (.ref C) "__init__" = some (some (.ref f))) (i : PySem.W.isFn K (.ref f) = true)
    (l : K.lookup f = some ⟨oc, od, .func (PySem.W.fnOf "__init__" qual (defArgs st) (defBody st) (defScope st) .none kV doc pm an cdv ct), osl⟩) (c : PySem.W.codeIn K cdv qual = true) (k : PySem.W.keepIn K (.ref f) = true) : FI K C qual st :=
  ⟨f, _, cl, ⟨mk, a, i, kc⟩, fun_mk l c k⟩
/-- an exception's own __init__ -/
def FX (K : PySem.W.Frag) (C : Addr) (qual : Str) (st : Stmt) : Prop := ∃ f fd, OexC K C ∧ PySem.W.findIn K (.ref C) "__init__" = some (some (.ref f)) ∧ PySem.W.typeIn K (.ref f) = some (.type "function") ∧ Fun K "__init__" qual st f fd
theorem fx_mk {C : Addr} (o : OexC K C) {qual : Str} {st : Stmt} {f : Addr} {oc : Value} {od an : Option Addr} {osl : Array (Option Value)} {kV doc pm cdv ct : Value} (a : PySem.W.findIn K (.ref C) "__init__" = some (some (.ref f))) (t : PySem.W.typeIn K (.ref f) = some (.type "function"))
    (l : K.lookup f = some ⟨oc, od, .func (PySem.W.fnOf "__init__" qual (defArgs st) (defBody st) (defScope st) .none kV doc pm an cdv ct), osl⟩) (c : PySem.W.codeIn K cdv qual = true) (k : PySem.W.keepIn K (.ref f) = true) : FX K C qual st :=
  ⟨f, _, o, a, t, fun_mk l c k⟩
theorem oex_mk {C : Addr} {nm q N bs bm sn sub ab col dd k0 k1 k2 k3 k5} (l : K.lookup C = some (excClassObj nm q C N bs bm true sn sub ab col dd k0 k1 k2 k3 k5 "ValueError.__new__")) (r : PySem.HandSPX.refsVE bm = true)
    (sa : PySem.W.findIn K (.ref C) "__setattr__" = some (some (.builtin "object.__setattr__"))) (e : PySem.W.subIn K (.ref C) (.type "BaseException") = some true) (t : PySem.W.typeIn K (.ref C) = some (.type "type")) (k : PySem.W.keepIn K (.ref C) = true) : OexC K C :=
  ⟨⟨nm, q, N, bs, bm, sn, sub, ab, col, dd, k0, k1, k2, k3, k5, l, r⟩, sa, e, t, k⟩
end
/-- the law's promise, without the relation -/
def spEnd (K : PySem.W.Frag) : Sp := fun vs H Q _ => ∃ (a : Addr) (ns : List Int), vs = [.ref a] ∧ ns.length ≤ 63 ∧ Only H ∧ SqL K H a (ns.map V.int) ∧ ∀ H', Q (.bl true) H'
theorem Gd.wE {α β : Type} {K : PySem.W.Frag} {L : Ly} {R : Hp → List Addr → α → β → Prop} {W1 W2 : Value → Option Addr → Hp → Prop} {ρ : List Addr} {H : Hp} {o : Ou α} {Q : β → Hp → Prop} {x : α} {S : Sto} (e : o = .ok x S) (h : ∀ ρ' H' v, R H' ρ' x v → Q v H') : Gd K L R W2 ρ H o Q := by
  subst e
  exact fun ρ' H' v _ _ rv => h ρ' H' v rv
theorem law_end {P : Program} {w : World} {K : PySem.W.Frag} {mg : Str → Option Value} {base : Heap} {L : Ly} {k : Nat} {f : Addr} {fd : FuncData} {ps : List Str} {F : Fn} (G : FnOk P w K mg base (L2.CX P w) k f fd ps (spM K L 1 F))
    (hF : ∀ (ns : List Int), ns.length ≤ 63 → ∃ S', F [.frl (ns.map D.int)] [] = .ok (.bl true) S') : FnOk P w K mg base (L2.CX P w) k f fd ps (spEnd K) :=
  G.imp fun vs H Q E ⟨a, ns, e, hl, ho, hs0, q⟩ => by
    subst e
    have hs : Frl K H a (ns.map V.int) := by
      rcases hs0 with (h | h) | h
      · rcases ho a with z | ⟨o, xs, z⟩
        · rw [h] at z; cases z
        · rw [h] at z; cases z
      · exact .inl h
      · exact .inr h
    obtain ⟨S', e⟩ := hF ns hl
    refine ⟨rfl, [], [], [.frl (ns.map D.int)], ⟨rfl, List.nodup_nil, fun n o a h => by simp at h⟩, .cons (.frl hs (RVs.ints ns)) .nil, ?_⟩
    exact Gd.wE (W1 := fun _ _ _ => False) e fun ρ' H' v rv => by
      cases rv
      exact q H'
theorem fun_binds1 {K : PySem.W.Frag} {x qual p : Str} {st : Stmt} {f : Addr} {fd : FuncData} (F : Fun K x qual st f fd) (h : ∀ kV doc pm an cdv ct u, bindArgs (PySem.W.fnOf x qual (defArgs st) (defBody st) (defScope st) .none kV doc pm an cdv ct) ⟨[u], []⟩ = pure [(p, u)]) (s : Shared) (v : Value) : BindsTo s fd ⟨[v], []⟩ [(p, v)] := by
  obtain ⟨oc, od, kV, doc, pm, an, cdv, ct, osl, rfl, lk, hcd⟩ := F.ex
  exact .of_eq (h kV doc pm an cdv ct v)
theorem kit_own {K : PySem.W.Frag} {C E : Addr} {b : Bool} (hd : PySem.W.hasDictIn K E = true) (ht : PySem.W.typeIn K (.ref E) = some (.type "type")) (hs : PySem.W.subIn K (.ref E) (.ref E) = some true) (h : PySem.W.subIn K (.ref C) (.ref E) = some b) : PySem.W.kitOne K (.ref C) (.ref E) = some b := by
  unfold PySem.W.kitOne
  by_cases e : (Value.ref C == Value.ref E) = true
  · rw [if_pos e]
    have e' : C = E := Value.ref.inj (beq_iff_eq.mp e)
    subst e'
    rw [hs] at h
    exact h
  · rw [if_neg e]
    obtain ⟨cd, hc, _⟩ := PySem.W.any_some hd
    have e2 : ((PySem.W.clsIn K E).isSome && PySem.W.typeIn K (.ref E) == some (.type "type")) = true := by rw [hc, ht] <;> rfl
    show (if ((PySem.W.clsIn K E).isSome && PySem.W.typeIn K (.ref E) == some (.type "type")) = true then PySem.W.subIn K (.ref C) (.ref E) else none) = some b
    rw [if_pos e2]
    exact h
theorem kit_typ {K : PySem.W.Frag} {C : Addr} {T : String} {b : Bool} (hm : PySem.W.kitMeta T = true) (h : PySem.W.subIn K (.ref C) (.type T) = some b) : PySem.W.kitOne K (.ref C) (.type T) = some b := by
  unfold PySem.W.kitOne
  have e : (Value.ref C == Value.type T) = false := by
    refine Bool.eq_false_iff.mpr fun q => ?_
    cases beq_iff_eq.mp q
  rw [e, if_neg Bool.false_ne_true]
  show (if PySem.W.kitMeta T = true then PySem.W.subIn K (.ref C) (.type T) else none) = some b
  rw [if_pos hm]
  exact h
end Mi

set_option Elab.async false
set_option linter.all false
set_option maxRecDepth 100000
set_option autoImplicit false
/-! Ma1: running a denotation -/
namespace Mi
open PySem PySem.Spec L2
section
variable {α β γ : Type} (env : En) (S : Sto) (f g h : Fs) (fa fb fc : Fx D) (fl : Fx (List D)) (i n : Nat)
theorem thn_c {o o' : Ou α} {k : α → Sto → Os} (e : o = o') : o.thn env k = o'.thn env k := by rw [e]
theorem bind_c {o o' : Ou α} {k : α → Sto → Ou β} (e : o = o') : o.bind k = o'.bind k := by rw [e]
theorem seq_c {o o' : Os} {k : En → Sto → Os} (e : o = o') : o.seq k = o'.seq k := by rw [e]
@[simp] theorem sSeq_ap : sSeq f g env S = (f env S).seq g := rfl
@[simp] theorem sNx_ap : sNx env S = .nx env S := rfl
@[simp] theorem sBk_ap : sBk env S = .bk env S := rfl
@[simp] theorem sCt_ap : sCt env S = .ct env S := rfl
@[simp] theorem sSet_ap : sSet i fa env S = (fa env S).thn env fun d S1 => .nx (env.set i (some d)) S1 := rfl
@[simp] theorem sDrop_ap : sDrop fa env S = (fa env S).thn env fun _ S1 => .nx env S1 := rfl
@[simp] theorem sRet_ap : sRet fa env S = (fa env S).thn env fun d S1 => .rt d S1 := rfl
@[simp] theorem sRetN_ap : sRetN env S = .rt .non S := rfl
def ifK (b : Bool) (f g : Os) : Os := if b = true then f else g
@[simp] theorem ifK_t (f g : Os) : ifK true f g = f := rfl
@[simp] theorem ifK_f (f g : Os) : ifK false f g = g := rfl
theorem ifK_c {b c : Bool} {f g : Os} (h : b = c) : ifK b f g = ifK c f g := by rw [h]
@[simp] theorem ifK_d (c : Prop) [Decidable c] (f g : Os) : ifK (decide c) f g = if c then f else g := by unfold ifK; simp
@[simp] theorem sIf_ap (c : Fx Bool) : sIf c f g env S = (c env S).thn env fun b S1 => ifK b (f env S1) (g env S1) := rfl
@[simp] theorem sAsg_ap (gf : Gf) : sAsg fa gf env S = (fa env S).thn env fun d S1 => gf d env S1 := rfl
@[simp] theorem gN_ap (d : D) : gN i d env S = .nx (env.set i (some d)) S := rfl
@[simp] theorem gT_ap (is : List Nat) (ds : List D) (h : ds.length = is.length) : gT is (.tup ds) env S = .nx (setAll is ds env) S := by unfold gT; simp [h]
@[simp] theorem gSub_ap (v : D) : gSub fa fb v env S = (fa env S).thn env fun o S1 => (fb env S1).thn env fun i S2 => ofS env (vSetI o i v S2) := rfl
@[simp] theorem ofS_s : ofS env (some S) = .nx env S := rfl
@[simp] theorem sFldD_ap (tbl : List (Nat × Nat)) : sFldD tbl fa fb env S = (fb env S).thn env fun y S1 => (fa env S1).thn env fun o S2 => ofS env (vFldS tbl o y S2) := rfl
@[simp] theorem sDel_ap : sDel fa fb env S = (fa env S).thn env fun o S1 => (fb env S1).thn env fun i S2 => ofS env (vDelI o i S2) := rfl
@[simp] theorem sRaise_ap : sRaise i fl env S = (fl env S).thn env fun xs S1 => if xs.length ≤ 1000 then .ex ⟨i, []⟩ env S1 else .bad := rfl
@[simp] theorem sRaiseI_ap : sRaiseI i n fl env S = (fl env S).thn env fun xs S1 => if xs.length = n then .ex ⟨i, xs.map some⟩ env S1 else .bad := rfl
@[simp] theorem sFor_ap (fi : Fx Wk) (gf : Gf) : sFor fi gf f env S = (fi env S).thn env fun p S1 => forGo p.2 gf f p.1 env S1 := rfl
def tryK (tbl : List (Nat × Bool)) (s : Fs) : Os → Os
  | .ex x env' S' => match tbl.lookup x.c with
    | some true => noX (s env' S')
    | some false => .ex x env' S'
    | none => .bad
  | o => o
@[simp] theorem sTry_ap (tbl : List (Nat × Bool)) : sTry f tbl g env S = tryK tbl g (f env S) := rfl
def tryKA (tbl : List (Nat × Bool)) (i : Nat) (s : Xc → Fs) : Os → Os
  | .ex x env' S' => match tbl.lookup x.c with
    | some true => if i < env'.length then clr i (noX (s x (env'.set i none) S')) else .bad
    | some false => .ex x env' S'
    | none => .bad
  | o => o
@[simp] theorem sTryAs_ap (tbl : List (Nat × Bool)) (s : Xc → Fs) : sTryAs f tbl i s env S = tryKA tbl i s (f env S) := rfl
def lockK (f : Fs) (env : En) (S : Sto) : Ou D → Os
  | .ok (.ref n) _ => match dctW S n with
    | some kvs => unl n (f env (S.set n (.lkd kvs)))
    | none => .bad
  | _ => .bad
@[simp] theorem sLock_ap : sLock (selD fa) f env S = lockK f env S (fa env S) := by
  unfold sLock selD lockK
  cases fa env S with
  | ok d S' => cases d <;> rfl
  | _ => rfl
def lockE (f : Fx D) (env : En) (S : Sto) : Ou D → Ou D
  | .ok (.ref n) _ => match dctW S n with
    | some kvs => match f env (S.set n (.lkd kvs)) with
      | .ok d S' => match unlS n S' with
        | some S2 => .ok d S2
        | none => .bad
      | _ => .bad
    | none => .bad
  | _ => .bad
@[simp] theorem eLock_ap : eLock (selD fa) fb env S = lockE fb env S (fa env S) := by
  unfold eLock selD lockE
  cases fa env S with
  | ok d S' => cases d <;> rfl
  | _ => rfl
/-! expressions -/
@[simp] theorem bnd_ap (f : Fx α) (k : α → Fx β) : bnd f k env S = (f env S).bind fun x S1 => k x env S1 := rfl
@[simp] theorem op1_ap (v : D → Sto → Ou D) : op1 v fa env S = (fa env S).bind fun x S1 => v x S1 := rfl
@[simp] theorem op2_ap (v : D → D → Sto → Ou D) : op2 v fa fb env S = (fa env S).bind fun x S1 => (fb env S1).bind fun y S2 => v x y S2 := rfl
@[simp] theorem opS_ap (v : List D → Sto → Ou D) : opS v fl env S = (fl env S).bind fun xs S1 => v xs S1 := rfl
def bK (x : D) (S : Sto) : Ou Bool := match x with
  | .bl b => .ok b S
  | _ => .bad
@[simp] theorem bK_b (b : Bool) : bK (.bl b) S = .ok b S := rfl
@[simp] theorem tsB_ap : tsB fa env S = (fa env S).bind fun d S1 => bK d S1 := rfl
@[simp] theorem tNotF_ap (c : Fx Bool) : tNotF c env S = (c env S).bind fun b S1 => .ok (!b) S1 := rfl
def ifB (b : Bool) (f g : Ou α) : Ou α := if b = true then f else g
@[simp] theorem ifB_t (f g : Ou α) : ifB true f g = f := rfl
@[simp] theorem ifB_f (f g : Ou α) : ifB false f g = g := rfl
theorem ifB_c {b c : Bool} {f g : Ou α} (h : b = c) : ifB b f g = ifB c f g := by rw [h]
@[simp] theorem ifB_d (c : Prop) [Decidable c] (f g : Ou α) : ifB (decide c) f g = if c then f else g := by unfold ifB; simp
@[simp] theorem tAndF_ap (c d : Fx Bool) : tAndF c d env S = (c env S).bind fun b S1 => ifB b (d env S1) (.ok false S1) := by
  unfold tAndF bnd
  congr 1
  funext b S1
  cases b <;> rfl
@[simp] theorem tOrF_ap (c d : Fx Bool) : tOrF c d env S = (c env S).bind fun b S1 => ifB b (.ok true S1) (d env S1) := by
  unfold tOrF bnd
  congr 1
  funext b S1
  cases b <;> rfl
@[simp] theorem eIf_ap (c : Fx Bool) : eIf c fa fb env S = (c env S).bind fun b S1 => ifB b (fa env S1) (fb env S1) := by
  unfold eIf bnd
  congr 1
  funext b S1
  cases b <;> rfl
@[simp] theorem eC_ap (d : D) : eC d env S = .ok d S := rfl
@[simp] theorem aN_ap : aN env S = .ok [] S := rfl
@[simp] theorem aC_ap : aC fa fl env S = (fa env S).bind fun x S1 => (fl env S1).bind fun xs S2 => .ok (x :: xs) S2 := rfl
def eVK (S : Sto) : Option (Option D) → Ou D
  | some (some d) => .ok d S
  | _ => .bad
@[simp] theorem eVK_s (d : D) : eVK S (some (some d)) = .ok d S := rfl
@[simp] theorem eV_ap : eV i env S = eVK S env[i]? := by
  unfold eV eVK
  rfl
@[simp] theorem eTup_ap : eTup fl env S = (fl env S).bind fun xs S1 => if xs.length ≤ 16777216 then .ok (.tup xs) S1 else .bad := rfl
@[simp] theorem eLst_ap : eLst fl env S = (fl env S).bind fun xs S1 => if xs.length ≤ 16777216 then .ok (.ref S1.length) (S1 ++ [.lst xs]) else .bad := rfl
@[simp] theorem eDnew_ap : eDnew env S = .ok (.ref S.length) (S ++ [.dct []]) := rfl
@[simp] theorem eFld_ap (tbl : List (Nat × Nat)) : eFld tbl fa env S = (fa env S).bind fun x S1 => vFld tbl x S1 := rfl
@[simp] theorem eSl_ap (fo fp : Fx (Option Int)) : eSl fa fo fp env S = (fa env S).bind fun x S1 => (fo env S1).bind fun l S2 => (fp env S2).bind fun h S3 => vSl x l h S3 := rfl
@[simp] theorem oN_ap : oN env S = .ok none S := rfl
def oSK (d : D) (S : Sto) : Ou (Option Int) := match d with
  | .int i => .ok (some i) S
  | _ => .bad
@[simp] theorem oSK_i (j : Int) : oSK (.int j) S = .ok (some j) S := rfl
@[simp] theorem oS_ap : oS fa env S = (fa env S).bind fun d S1 => oSK d S1 := rfl
@[simp] theorem eCall_ap (F : Fn) : eCall n F fl env S = (fl env S).bind fun xs S1 => if xs.length = n then F xs S1 else .bad := rfl
@[simp] theorem eMake_ap (F : Fn) (c nf : Nat) : eMake c nf n F fl env S = (fl env S).bind fun xs S1 => vMake c nf n F xs S1 := rfl
def mthK (tbl : List (Nat × Nat × Fn)) (fl : Fx (List D)) (env : En) (x : D) (S : Sto) : Ou D := match insAt S x with
  | some (_, c, _) => match tbl.lookup c with
    | some (n, F) => (fl env S).bind fun xs S' => if xs.length = n then F (x :: xs) S' else .bad
    | none => .bad
  | none => .bad
@[simp] theorem eMth_ap (tbl : List (Nat × Nat × Fn)) : eMth tbl fa fl env S = (fa env S).bind fun x S1 => mthK tbl fl env x S1 := rfl
def bmK (T : String) (g : D → List D → Sto → Ou D) (fl : Fx (List D)) (env : En) (x : D) (S : Sto) : Ou D := if tyD T S x = true then (fl env S).bind (fun xs S' => g x xs S') else .bad
@[simp] theorem eBM_ap (T : String) (g : D → List D → Sto → Ou D) : eBM T g fa fl env S = (fa env S).bind fun x S1 => bmK T g fl env x S1 := rfl
@[simp] theorem iSeq_ap : iSeq fa env S = (fa env S).bind fun d S1 => seqW d S1 := rfl
@[simp] theorem iRange1_ap : iRange1 fl env S = (fl env S).bind fun xs S1 => rng1 xs S1 := rfl
@[simp] theorem iRange2_ap : iRange2 fl env S = (fl env S).bind fun xs S1 => rng2 xs S1 := rfl
@[simp] theorem iKeysF_ap : iKeysF fa env S = (fa env S).bind fun d S1 => (match lkAt S1 d with
  | some kvs => .ok (kvs.map fun kv => kD kv.1, fun _ => True) S1
  | none => .bad : Ou Wk) := rfl
@[simp] theorem iValsF_ap : iValsF fa env S = (fa env S).bind fun d S1 => (match lkAt S1 d with
  | some kvs => .ok (kvs.map (·.2), fun _ => True) S1
  | none => .bad : Ou Wk) := rfl
@[simp] theorem iItemsF_ap : iItemsF fa env S = (fa env S).bind fun d S1 => (match lkAt S1 d with
  | some kvs => .ok (kvs.map fun kv => .tup [kD kv.1, kv.2], fun _ => True) S1
  | none => .bad : Ou Wk) := rfl
@[simp] theorem eLc_ap (fi : Fx Wk) (gf : Gf) (own : List Nat) (ft : Fx Bool) : eLc fi gf own ft fa env S = (fi env S).bind fun p S1 => (lcGo p.2 gf own ft fa S1.length p.1 env (S1 ++ [.lst []])).bind fun _ S' => .ok (.ref S1.length) S' := rfl
def dpopK (fb : Fx D) (env : En) (x : D) (S : Sto) : Ou D := if isDctW S x = true then (fb env S).bind (fun k S' => vDPop1 x k S') else .bad
@[simp] theorem eDPop1_ap : eDPop1 fa fb env S = (fa env S).bind fun x S1 => dpopK fb env x S1 := rfl
def dgetK1 (fb : Fx D) (env : En) (x : D) (S : Sto) : Ou D := if isDct S x = true then (fb env S).bind (fun k S' => vGet x k .non S') else .bad
@[simp] theorem eGet1_ap : eGet1 fa fb env S = (fa env S).bind fun x S1 => dgetK1 fb env x S1 := rfl
def dgetK2 (fb fc : Fx D) (env : En) (x : D) (S : Sto) : Ou D := if isDct S x = true then (fb env S).bind (fun k S' => (fc env S').bind fun y S'' => vGet x k y S'') else .bad
@[simp] theorem eGet2_ap : eGet2 fa fb fc env S = (fa env S).bind fun x S1 => dgetK2 fb fc env x S1 := rfl
def sAugK (i : Nat) (g : D → D → Sto → Ou D) (fa : Fx D) (env : En) (S : Sto) : Option (Option D) → Os
  | some (some x) => (fa env S).thn env fun y S1 => (g x y S1).thn env fun z S2 => .nx (env.set i (some z)) S2
  | _ => .bad
@[simp] theorem sAug_ap (g : D → D → Sto → Ou D) : sAug i g fa env S = sAugK i g fa env S env[i]? := by
  unfold sAug sAugK
  rfl
def augFK (tbl : List (Nat × Nat)) (g : D → D → Sto → Ou D) (fb : Fx D) (env : En) (o : D) (S1 : Sto) : Os := match insAt S1 o with
  | some (_, c, fs) => match tbl.lookup c with
    | some i => match fs[i]? with
      | some (some x) => (fb env S1).thn env fun y S2 => (g x y S2).thn env fun z S3 => ofS env (match insAt S3 o with
        | some (n, c', fs') => if c' = c then some (S3.set n (.ins c (fs'.set i (some z)))) else none
        | none => none)
      | _ => .bad
    | none => .bad
  | none => .bad
@[simp] theorem sAugF_ap (tbl : List (Nat × Nat)) (g : D → D → Sto → Ou D) : sAugF tbl g fa fb env S = (fa env S).thn env fun o S1 => augFK tbl g fb env o S1 := rfl
def augDK (g : D → D → Sto → Ou D) (fc : Fx D) (env : En) (o i : D) (S2 : Sto) : Os := match o with
  | .ref n => match dctAt S2 n, keyD i with
    | some kvs, some key => match dGet kvs key with
      | some x => (fc env S2).thn env fun y S3 => (g x y S3).thn env fun z S4 => ofS env (match dctW S4 n with
        | some kvs' => if kvs'.length < 16777216 then some (S4.set n (.dct (dPut kvs' key z))) else none
        | none => none)
      | none => .bad
    | _, _ => .bad
  | _ => .bad
@[simp] theorem sAugD_ap (g : D → D → Sto → Ou D) : sAugD g fa fb fc env S = (fa env S).thn env fun o S1 => (fb env S1).thn env fun i S2 => augDK g fc env o i S2 := rfl
end
@[simp] theorem str_inj (a b : String) : (Str.ofString a = Str.ofString b) = (a = b) := by
  apply propext
  constructor
  · intro h
    rw [Str.ofString_eq_toList, Str.ofString_eq_toList] at h
    have h1 := congrArg (fun x : Str => x.cps.toList) h
    simp only [] at h1
    have h2 : a.toList = b.toList := (List.map_inj_right fun x y (hxy : x.toNat = y.toNat) => Char.toNat_inj.mp hxy).mp h1
    exact String.toList_inj.mp h2
  · rintro rfl
    rfl
/-! equality -/
def sOk (x : Str) : Bool := x.cps.all (· < 0x110000)
theorem eqD_int (S : Sto) (a b : Int) : eqD S (.int a) (.int b) = some (decide (a = b)) := by
  simp only [eqD, toP, SeqAt.shaped, PyData.canLay0, PyData.depth, PyData.eqv]
  simp
  rfl
theorem eqD_str (S : Sto) (a b : Str) (ha : sOk a = true) (hb : sOk b = true) : eqD S (.str a) (.str b) = some (decide (a = b)) := by
  have h1 : PyData.strOk a = true := ha
  have h2 : PyData.strOk b = true := hb
  simp only [eqD, toP, SeqAt.shaped, PyData.canLay0, PyData.depth, PyData.eqv, h1, h2]
  simp
  rfl
theorem eqD_same (S : Sto) (x y : D) (p : PyData) (hx : toP S 16 x = some p) (hy : toP S 16 y = some p) (hs : SeqAt.shaped p = true) : eqD S x y = some true := by
  simp only [eqD, hx, hy, hs]
  simp [SeqAt.eqv_refl p (SeqAt.canLay_of_shaped hs)]
@[simp] theorem vEq_int (S : Sto) (a b : Int) : vEq (.int a) (.int b) S = .ok (.bl (decide (a = b))) S := by unfold vEq; rw [eqD_int]; rfl
@[simp] theorem vNe_int (S : Sto) (a b : Int) : vNe (.int a) (.int b) S = .ok (.bl (!decide (a = b))) S := by unfold vNe; rw [eqD_int]; rfl
theorem vEq_str (S : Sto) (a b : Str) (ha : sOk a = true) (hb : sOk b = true) : vEq (.str a) (.str b) S = .ok (.bl (decide (a = b))) S := by unfold vEq; rw [eqD_str S a b ha hb]; rfl
theorem vNe_str (S : Sto) (a b : Str) (ha : sOk a = true) (hb : sOk b = true) : vNe (.str a) (.str b) S = .ok (.bl (!decide (a = b))) S := by unfold vNe; rw [eqD_str S a b ha hb]; rfl
/-! loops -/
theorem forGo_nil (chk : Sto → Prop) (gf : Gf) (b : Fs) (env : En) (S : Sto) (h : chk S) : forGo chk gf b [] env S = .nx env S := by unfold forGo; rw [if_pos h]
theorem forGo_cons (chk : Sto → Prop) (gf : Gf) (b : Fs) (d : D) (ds : List D) (env : En) (S : Sto) (h : chk S) : forGo chk gf b (d :: ds) env S = match (gf d env S).seq b with
      | .nx env' S' => forGo chk gf b ds env' S'
      | .ct env' S' => forGo chk gf b ds env' S'
      | .bk env' S' => .nx env' S'
      | o => o := by
  conv => lhs; unfold forGo
  rw [if_pos h] <;> (cases (gf d env S).seq b <;> rfl)
theorem lstAt_app (S0 : Sto) (xs : List D) : lstAt (S0 ++ [.lst xs]) S0.length = some xs := by
  unfold lstAt
  simp
theorem set_app (S0 : Sto) (o u : O) : (S0 ++ [o]).set S0.length u = S0 ++ [u] := by
  rw [List.set_append_right _ _ (Nat.le_refl _)]
  simp
/-- a comprehension whose element makes nothing new -/
theorem lc_gen {chk : Sto → Prop} {gf : Gf} {own : List Nat} {ft : Fx Bool} {fe : Fx D} (S0 : Sto) (env : En) (g : D → D) : ∀ (ds acc : List D), (∀ acc, chk (S0 ++ [.lst acc])) →
    (∀ d ∈ ds, ∀ acc, ∃ env2, gf d (wipeE env own) (S0 ++ [.lst acc]) = .nx env2 (S0 ++ [.lst acc]) ∧ ft env2 (S0 ++ [.lst acc]) = .ok true (S0 ++ [.lst acc]) ∧ fe env2 (S0 ++ [.lst acc]) = .ok (g d) (S0 ++ [.lst acc])) →
    acc.length + ds.length < 16777216 → lcGo chk gf own ft fe S0.length ds env (S0 ++ [.lst acc]) = .ok () (S0 ++ [.lst (acc ++ ds.map g)])
  | [], acc, hc, _, _ => by
    unfold lcGo
    rw [if_pos (hc acc)]
    simp
  | d :: ds, acc, hc, h, hl => by
    obtain ⟨env2, e1, e2, e3⟩ := h d List.mem_cons_self acc
    unfold lcGo
    rw [if_pos (hc acc), e1]
    simp only [e2, e3, lstAt_app]
    rw [if_pos (by simp at hl; omega), set_app, lc_gen S0 env g ds (acc ++ [g d]) hc (fun x hx => h x (List.mem_cons_of_mem _ hx)) (by simp at hl ⊢; omega)]
    simp
theorem eLc_gen {fi : Fx Wk} {gf : Gf} {own : List Nat} {ft : Fx Bool} {fe : Fx D} {env : En} {S S0 : Sto} {ds : List D} {chk : Sto → Prop} (g : D → D) (hi : fi env S = .ok (ds, chk) S0) (hc : ∀ acc, chk (S0 ++ [.lst acc]))
    (h : ∀ d ∈ ds, ∀ acc, ∃ env2, gf d (wipeE env own) (S0 ++ [.lst acc]) = .nx env2 (S0 ++ [.lst acc]) ∧ ft env2 (S0 ++ [.lst acc]) = .ok true (S0 ++ [.lst acc]) ∧ fe env2 (S0 ++ [.lst acc]) = .ok (g d) (S0 ++ [.lst acc]))
    (hl : ds.length < 16777216) : eLc fi gf own ft fe env S = .ok (.ref S0.length) (S0 ++ [.lst (ds.map g)]) := by
  rw [eLc_ap, hi]
  simp only [Ou.bind_ok]
  rw [lc_gen S0 env g ds [] hc h (by simpa using hl)]
  simp
theorem isIn_str2 (S : Sto) (k : Nat) (n s d : Str) (hS : S[k]? = some (.lst [.str s, .str d])) (hn : sOk n = true) (hs : sOk s = true) (hd : sOk d = true) : vIn (.str n) (.ref k) S = .ok (.bl (decide (n = s) || decide (n = d))) S := by
  have h1 : PyData.strOk n = true := hn
  have h2 : PyData.strOk s = true := hs
  have h3 : PyData.strOk d = true := hd
  have e1 : dctAt S k = none := by unfold dctAt; rw [hS]
  have e2 : toP S 16 (.ref k) = some (.list [.str s, .str d]) := by simp [toP, toPs, hS]
  have e3 : toP S 16 (.str n) = some (.str n) := by simp [toP]
  have c : (s == n) = decide (n = s) := by
    by_cases h : n = s
    · subst h; simp
    · have : ¬ s = n := fun z => h z.symm
      simp [h, this]
  have c2 : (d == n) = decide (n = d) := by
    by_cases h : n = d
    · subst h; simp
    · have : ¬ d = n := fun z => h z.symm
      simp [h, this]
  simp [vIn, isIn, e1, e2, e3, SeqAt.shaped, PyData.canLay0, PyData.canLayAll0, PyData.depth, PyData.depthAll, h1, h2, h3, PyData.eqv, ofO, c, c2]
theorem vFdiv_ok (i j : Int) (S : Sto) (h1 : 0 < j) (h2 : j < 1073741824) : vFdiv (.int i) (.int j) S = .ok (.int (i / j)) S := by
  show (if 0 < j ∧ j < 1073741824 then _ else _) = _
  rw [if_pos ⟨h1, h2⟩]
theorem vMod_ok (i j : Int) (S : Sto) (h1 : 0 < j) : vMod (.int i) (.int j) S = .ok (.int (i % j)) S := by
  show (if 0 < j then _ else _) = _
  rw [if_pos h1]
theorem vMul_ok (i j : Int) (S : Sto) (h : (-18446744073709551616 < i ∧ i < 18446744073709551616) ∨ (-18446744073709551616 < j ∧ j < 18446744073709551616)) : vMul (.int i) (.int j) S = .ok (.int (i * j)) S := by
  show (if _ then _ else _) = _
  rw [if_pos h]
end Mi

set_option Elab.async false
set_option linter.all false
set_option maxRecDepth 100000
set_option maxHeartbeats 4000000
set_option autoImplicit false
/-! what the defs of the text compute -/
namespace Lw
open PySem PySem.Spec L2 Mi
def flds : List (List Str) := [[], ["reason"], ["owners", "balances", "holds", "total"]]
def fl_balances : List (Nat × Nat) := [(2, 1)]
def fl_holds : List (Nat × Nat) := [(2, 2)]
def fl_owners : List (Nat × Nat) := [(2, 0)]
def fl_total : List (Nat × Nat) := [(2, 3)]
def xf_reason : List (Nat × Nat) := [(1, 0)]
def ext_LedgerError : List (Nat × Bool) := [(1, true)]
def ext_Refused : List (Nat × Bool) := [(1, true)]
def xis_Refused : List (Nat × Bool) := [(1, true)]
def xis_ValueError : List (Nat × Bool) := [(1, true)]
/-- Accounts.__init__ -/
noncomputable def d_Accounts_init : Fs := (sSeq (sFldD fl_owners (eV 0) eDnew)
  (sSeq (sFldD fl_balances (eV 0) eDnew)
  (sSeq (sFldD fl_holds (eV 0) eDnew)
  (sFldD fl_total (eV 0) (eC (.int 0))))))
noncomputable def F_Accounts_init : Fn := fnM 1 1 d_Accounts_init
/-- Accounts.create -/
noncomputable def d_Accounts_create : Fs := (sSeq (sIf (tsB (op2 vIn (eV 2) (eFld fl_owners (eV 0)))) (sRaiseI 1 1 (aC (eC (.str "taken")) aN)) sNx)
  (sSeq (sIf (tsB (op2 vGe (opS vLen (aC (eFld fl_owners (eV 0)) aN)) (eC (.int 100)))) (sRaiseI 1 1 (aC (eC (.str "full")) aN)) sNx)
  (sSeq (sAsg (eV 1) (gSub (eFld fl_owners (eV 0)) (eV 2)))
  (sAsg (eC (.int 0)) (gSub (eFld fl_balances (eV 0)) (eV 2))))))
noncomputable def F_Accounts_create : Fn := fnM 3 3 d_Accounts_create
/-- Accounts.owner -/
noncomputable def d_Accounts_owner : Fs := (sSeq (sIf (tsB (op2 vNotIn (eV 1) (eFld fl_owners (eV 0)))) (sRaiseI 1 1 (aC (eC (.str "missing")) aN)) sNx)
  (sRet (op2 vIx (eFld fl_owners (eV 0)) (eV 1))))
noncomputable def F_Accounts_owner : Fn := fnM 2 2 d_Accounts_owner
/-- Accounts.close -/
noncomputable def d_Accounts_close : Fs := (sSeq (sIf (tsB (op2 vNe (eMth [(2, 1, F_Accounts_owner)] (eV 0) (aC (eV 2) aN)) (eV 1))) (sRaiseI 1 1 (aC (eC (.str "owner")) aN)) sNx)
  (sSeq (sIf (tsB (op2 vNe (op2 vIx (eFld fl_balances (eV 0)) (eV 2)) (eC (.int 0)))) (sRaiseI 1 1 (aC (eC (.str "busy")) aN)) sNx)
  (sSeq (sLock (selD (eFld fl_holds (eV 0))) (sFor (iValsF (eFld fl_holds (eV 0))) (gT [3, 4, 5]) (sIf (tOrF (tsB (op2 vEq (eV 2) (eV 3))) (tsB (op2 vEq (eV 2) (eV 4)))) (sRaiseI 1 1 (aC (eC (.str "busy")) aN)) sNx)))
  (sSeq (sDel (eFld fl_owners (eV 0)) (eV 2))
  (sDel (eFld fl_balances (eV 0)) (eV 2))))))
noncomputable def F_Accounts_close : Fn := fnM 6 3 d_Accounts_close
/-- Accounts.balance -/
noncomputable def d_Accounts_balance : Fs := (sSeq (sIf (tsB (op2 vNotIn (eV 1) (eFld fl_balances (eV 0)))) (sRaiseI 1 1 (aC (eC (.str "missing")) aN)) sNx)
  (sRet (op2 vIx (eFld fl_balances (eV 0)) (eV 1))))
noncomputable def F_Accounts_balance : Fn := fnM 2 2 d_Accounts_balance
/-- Accounts.issue -/
noncomputable def d_Accounts_issue : Fs := (sSeq (sIf (tsB (op2 vNe (eV 1) (eC (.int (-1))))) (sRaiseI 1 1 (aC (eC (.str "mint")) aN)) sNx)
  (sSeq (sSet 4 (eMth [(2, 1, F_Accounts_balance)] (eV 0) (aC (eV 2) aN)))
  (sSeq (sIf (tsB (op2 vGt (op2 vAdd (eFld fl_total (eV 0)) (eV 3)) (eC (.int 1000000000000000)))) (sRaiseI 1 1 (aC (eC (.str "limit")) aN)) sNx)
  (sSeq (sAsg (op2 vAdd (eV 4) (eV 3)) (gSub (eFld fl_balances (eV 0)) (eV 2)))
  (sAugF fl_total vIadd (eV 0) (eV 3))))))
noncomputable def F_Accounts_issue : Fn := fnM 5 4 d_Accounts_issue
/-- Accounts._check_funds -/
noncomputable def d_Accounts_check_funds : Fs := (sSeq (sIf (tsB (op2 vNe (eMth [(2, 1, F_Accounts_owner)] (eV 0) (aC (eV 2) aN)) (eV 1))) (sRaiseI 1 1 (aC (eC (.str "owner")) aN)) sNx)
  (sIf (tsB (op2 vLt (op2 vIx (eFld fl_balances (eV 0)) (eV 2)) (eV 3))) (sRaiseI 1 1 (aC (eC (.str "funds")) aN)) sNx))
noncomputable def F_Accounts_check_funds : Fn := fnM 4 4 d_Accounts_check_funds
/-- Accounts.burn -/
noncomputable def d_Accounts_burn : Fs := (sSeq (sDrop (eMth [(2, 3, F_Accounts_check_funds)] (eV 0) (aC (eV 1) (aC (eV 2) (aC (eV 3) aN)))))
  (sSeq (sAugD vSub (eFld fl_balances (eV 0)) (eV 2) (eV 3))
  (sAugF fl_total vSub (eV 0) (eV 3))))
noncomputable def F_Accounts_burn : Fn := fnM 4 4 d_Accounts_burn
/-- Accounts._check_payment -/
noncomputable def d_Accounts_check_payment : Fs := (sSeq (sIf (tOrF (tsB (op2 vNotIn (eV 2) (eFld fl_owners (eV 0)))) (tsB (op2 vNotIn (eV 3) (eFld fl_owners (eV 0))))) (sRaiseI 1 1 (aC (eC (.str "missing")) aN)) sNx)
  (sDrop (eMth [(2, 3, F_Accounts_check_funds)] (eV 0) (aC (eV 1) (aC (eV 2) (aC (eV 4) aN))))))
noncomputable def F_Accounts_check_payment : Fn := fnM 5 5 d_Accounts_check_payment
/-- Accounts.pay -/
noncomputable def d_Accounts_pay : Fs := (sSeq (sDrop (eMth [(2, 4, F_Accounts_check_payment)] (eV 0) (aC (eV 1) (aC (eV 2) (aC (eV 3) (aC (eV 4) aN))))))
  (sSeq (sAugD vSub (eFld fl_balances (eV 0)) (eV 2) (eV 4))
  (sAugD vIadd (eFld fl_balances (eV 0)) (eV 3) (eV 4))))
noncomputable def F_Accounts_pay : Fn := fnM 5 5 d_Accounts_pay
/-- Accounts.hold -/
noncomputable def d_Accounts_hold : Fs := (sSeq (sDrop (eMth [(2, 4, F_Accounts_check_payment)] (eV 0) (aC (eV 1) (aC (eV 2) (aC (eV 3) (aC (eV 4) aN))))))
  (sSeq (sIf (tsB (op2 vIn (eV 5) (eFld fl_holds (eV 0)))) (sRaiseI 1 1 (aC (eC (.str "taken")) aN)) sNx)
  (sSeq (sIf (tsB (op2 vGe (opS vLen (aC (eFld fl_holds (eV 0)) aN)) (eC (.int 100)))) (sRaiseI 1 1 (aC (eC (.str "full")) aN)) sNx)
  (sSeq (sAugD vSub (eFld fl_balances (eV 0)) (eV 2) (eV 4))
  (sAsg (eTup (aC (eV 2) (aC (eV 3) (aC (eV 4) aN)))) (gSub (eFld fl_holds (eV 0)) (eV 5)))))))
noncomputable def F_Accounts_hold : Fn := fnM 6 6 d_Accounts_hold
/-- Accounts.settle -/
noncomputable def d_Accounts_settle : Fs := (sSeq (sIf (tsB (op2 vNotIn (eV 2) (eFld fl_holds (eV 0)))) (sRaiseI 1 1 (aC (eC (.str "missing")) aN)) sNx)
  (sSeq (sAsg (op2 vIx (eFld fl_holds (eV 0)) (eV 2)) (gT [3, 4, 5]))
  (sSeq (sIf (tsB (op2 vNe (op2 vIx (eFld fl_owners (eV 0)) (eV 3)) (eV 1))) (sRaiseI 1 1 (aC (eC (.str "owner")) aN)) sNx)
  (sSeq (sDel (eFld fl_holds (eV 0)) (eV 2))
  (sAugD vIadd (eFld fl_balances (eV 0)) (eV 4) (eV 5))))))
noncomputable def F_Accounts_settle : Fn := fnM 6 3 d_Accounts_settle
/-- Accounts.release -/
noncomputable def d_Accounts_release : Fs := (sSeq (sIf (tsB (op2 vNotIn (eV 2) (eFld fl_holds (eV 0)))) (sRaiseI 1 1 (aC (eC (.str "missing")) aN)) sNx)
  (sSeq (sAsg (op2 vIx (eFld fl_holds (eV 0)) (eV 2)) (gT [3, 4, 5]))
  (sSeq (sIf (tsB (op2 vNe (op2 vIx (eFld fl_owners (eV 0)) (eV 4)) (eV 1))) (sRaiseI 1 1 (aC (eC (.str "owner")) aN)) sNx)
  (sSeq (sDel (eFld fl_holds (eV 0)) (eV 2))
  (sAugD vIadd (eFld fl_balances (eV 0)) (eV 3) (eV 5))))))
noncomputable def F_Accounts_release : Fn := fnM 6 3 d_Accounts_release
/-- _law_call -/
noncomputable def d_law_call : Fs := (sSeq (sAsg (eV 1) (gT [2, 3, 4, 5, 6, 7]))
  (sSeq (sTryAs (sIf (tsB (op2 vEq (eV 2) (eC (.str "create")))) (sDrop (eMth [(2, 2, F_Accounts_create)] (eV 0) (aC (eV 3) (aC (eV 4) aN)))) (sIf (tsB (op2 vEq (eV 2) (eC (.str "close")))) (sDrop (eMth [(2, 2, F_Accounts_close)] (eV 0) (aC (eV 3) (aC (eV 4) aN)))) (sIf (tsB (op2 vEq (eV 2) (eC (.str "issue")))) (sDrop (eMth [(2, 3, F_Accounts_issue)] (eV 0) (aC (eV 3) (aC (eV 4) (aC (eV 6) aN))))) (sIf (tsB (op2 vEq (eV 2) (eC (.str "burn")))) (sDrop (eMth [(2, 3, F_Accounts_burn)] (eV 0) (aC (eV 3) (aC (eV 4) (aC (eV 6) aN))))) (sIf (tsB (op2 vEq (eV 2) (eC (.str "pay")))) (sDrop (eMth [(2, 4, F_Accounts_pay)] (eV 0) (aC (eV 3) (aC (eV 4) (aC (eV 5) (aC (eV 6) aN)))))) (sIf (tsB (op2 vEq (eV 2) (eC (.str "hold")))) (sDrop (eMth [(2, 5, F_Accounts_hold)] (eV 0) (aC (eV 3) (aC (eV 4) (aC (eV 5) (aC (eV 6) (aC (eV 7) aN))))))) (sIf (tsB (op2 vEq (eV 2) (eC (.str "settle")))) (sDrop (eMth [(2, 2, F_Accounts_settle)] (eV 0) (aC (eV 3) (aC (eV 7) aN)))) (sDrop (eMth [(2, 2, F_Accounts_release)] (eV 0) (aC (eV 3) (aC (eV 7) aN))))))))))) ext_Refused 8 (fun x => (sRet (eXf 8 xf_reason x))))
  (sRet (eC (.str "")))))
noncomputable def F_law_call : Fn := fnM 9 2 d_law_call
/-- _law_apply -/
noncomputable def d_law_apply : Fs := (sSeq (sAsg (eV 1) (gT [2, 3, 4, 5, 6, 7]))
  (sIf (tsB (op2 vEq (eV 2) (eC (.str "create")))) (sSeq (sAsg (eV 3) (gSub (op2 vIx (eV 0) (eC (.int 0))) (eV 4)))
  (sAsg (eC (.int 0)) (gSub (op2 vIx (eV 0) (eC (.int 1))) (eV 4)))) (sIf (tsB (op2 vEq (eV 2) (eC (.str "close")))) (sSeq (sDrop (eDPop1 (op2 vIx (eV 0) (eC (.int 0))) (eV 4)))
  (sDrop (eDPop1 (op2 vIx (eV 0) (eC (.int 1))) (eV 4)))) (sIf (tsB (op2 vEq (eV 2) (eC (.str "issue")))) (sAsg (op2 vAdd (op2 vIx (op2 vIx (eV 0) (eC (.int 1))) (eV 4)) (eV 6)) (gSub (op2 vIx (eV 0) (eC (.int 1))) (eV 4))) (sIf (tsB (op2 vEq (eV 2) (eC (.str "burn")))) (sAsg (op2 vSub (op2 vIx (op2 vIx (eV 0) (eC (.int 1))) (eV 4)) (eV 6)) (gSub (op2 vIx (eV 0) (eC (.int 1))) (eV 4))) (sIf (tsB (op2 vEq (eV 2) (eC (.str "pay")))) (sSeq (sAsg (op2 vSub (op2 vIx (op2 vIx (eV 0) (eC (.int 1))) (eV 4)) (eV 6)) (gSub (op2 vIx (eV 0) (eC (.int 1))) (eV 4)))
  (sAsg (op2 vAdd (op2 vIx (op2 vIx (eV 0) (eC (.int 1))) (eV 5)) (eV 6)) (gSub (op2 vIx (eV 0) (eC (.int 1))) (eV 5)))) (sIf (tsB (op2 vEq (eV 2) (eC (.str "hold")))) (sSeq (sAsg (op2 vSub (op2 vIx (op2 vIx (eV 0) (eC (.int 1))) (eV 4)) (eV 6)) (gSub (op2 vIx (eV 0) (eC (.int 1))) (eV 4)))
  (sAsg (eTup (aC (eV 4) (aC (eV 5) (aC (eV 6) aN)))) (gSub (op2 vIx (eV 0) (eC (.int 2))) (eV 7)))) (sSeq (sSet 8 (eDPop1 (op2 vIx (eV 0) (eC (.int 2))) (eV 7)))
  (sSeq (sSet 9 (eIf (tsB (op2 vEq (eV 2) (eC (.str "settle")))) (op2 vIx (eV 8) (eC (.int 1))) (op2 vIx (eV 8) (eC (.int 0)))))
  (sAsg (op2 vAdd (op2 vIx (op2 vIx (eV 0) (eC (.int 1))) (eV 9)) (op2 vIx (eV 8) (eC (.int 2)))) (gSub (op2 vIx (eV 0) (eC (.int 1))) (eV 9))))))))))))
noncomputable def F_law_apply : Fn := fnM 10 2 d_law_apply
/-- _law_rich -/
noncomputable def d_law_rich : Fs := (sSeq (sIf (tsB (op2 vGe (eV 0) (op2 vPow (eC (.int 10)) (eC (.int 18))))) (sRet (opS vInt (aC (eV 0) aN))) sNx)
  (sSeq (sSet 2 (op2 vMod (opS vInt (aC (op2 vAdd (op2 vAdd (op2 vMul (eV 0) (eC (.int 48271))) (op2 vMul (eV 1) (eC (.int 69621)))) (eC (.int 11))) aN)) (eC (.int 2147483647))))
  (sRet (op2 vAdd (op2 vMul (eV 2) (eC (.int 2147483629))) (op2 vMod (opS vInt (aC (op2 vAdd (op2 vMul (eV 2) (eC (.int 16807))) (eV 0)) aN)) (eC (.int 2147483629)))))))
noncomputable def F_law_rich : Fn := fnM 3 2 d_law_rich
/-- _law_amount -/
noncomputable def d_law_amount : Fs := (sSeq (sIf (tsB (op2 vLt (op2 vMod (opS vInt (aC (eV 0) aN)) (eC (.int 4))) (eC (.int 3)))) (sRet (op2 vMod (op2 vFdiv (eV 0) (eC (.int 4))) (eC (.int 9)))) sNx)
  (sSeq (sIf (tsB (op2 vEq (op2 vMod (op2 vFdiv (eV 0) (eC (.int 4))) (eC (.int 8))) (eC (.int 0)))) (sRet (op2 vSub (op2 vSub (op2 vPow (eC (.int 10)) (eC (.int 12))) (eC (.int 1))) (op2 vMod (op2 vFdiv (eV 0) (eC (.int 32))) (eC (.int 3))))) sNx)
  (sRet (op2 vMod (op2 vFdiv (eV 0) (eC (.int 32))) (op2 vPow (eC (.int 10)) (eC (.int 12)))))))
noncomputable def F_law_amount : Fn := fnM 1 1 d_law_amount
/-- _law_word -/
noncomputable def d_law_word : Fs := (sSeq (sSet 4 (eC (.str "")))
  (sSeq (sSet 5 (opS vInt (aC (eV 2) aN)))
  (sSeq (sFor (iRange1 (aC (eV 0) aN)) (gN 6) (sSeq (sSet 4 (op2 vAdd (eV 4) (op2 vIx (eV 1) (op2 vMod (opS vInt (aC (op2 vAdd (eV 5) (op2 vMul (eV 6) (eV 3))) aN)) (opS vLen (aC (eV 1) aN))))))
  (sSet 5 (op2 vFdiv (eV 5) (opS vLen (aC (eV 1) aN))))))
  (sRet (eV 4)))))
noncomputable def F_law_word : Fn := fnM 7 4 d_law_word
/-- _law_key -/
noncomputable def d_law_key : Fs := (sSeq (sIf (tsB (op2 vLt (op2 vMod (opS vInt (aC (eV 0) aN)) (eC (.int 4))) (eC (.int 3)))) (sRet (op2 vIx (eLst (aC (eC (.str "k")) (aC (eC (.str "k.1")) (aC (eC (.str "k.22")) aN)))) (op2 vMod (op2 vFdiv (eV 0) (eC (.int 4))) (eC (.int 3))))) sNx)
  (sSeq (sSet 1 (op2 vAdd (eC (.int 1)) (op2 vMod (op2 vFdiv (eV 0) (eC (.int 4))) (eC (.int 20)))))
  (sRet (eCall 4 F_law_word (aC (eV 1) (aC (eC (.str "abcdefghijklmnopqrstuvwxyz0123456789.")) (aC (op2 vFdiv (eV 0) (eC (.int 80))) (aC (eC (.int 0)) aN))))))))
noncomputable def F_law_key : Fn := fnM 2 1 d_law_key
/-- _law_name -/
noncomputable def d_law_name : Fs := (sSeq (sIf (tsB (op2 vLt (op2 vMod (opS vInt (aC (eV 0) aN)) (eC (.int 4))) (eC (.int 3)))) (sRet (op2 vIx (eLst (aC (eC (.str "ann")) (aC (eC (.str "bob")) (aC (eC (.str "eve")) aN)))) (op2 vMod (op2 vFdiv (eV 0) (eC (.int 4))) (eC (.int 3))))) sNx)
  (sSeq (sSet 1 (op2 vAdd (eC (.int 1)) (op2 vMod (op2 vFdiv (eV 0) (eC (.int 4))) (eC (.int 12)))))
  (sRet (eCall 4 F_law_word (aC (eV 1) (aC (eC (.str "abcdefghijklmnopqrstuvwxyz")) (aC (op2 vFdiv (eV 0) (eC (.int 48))) (aC (eC (.int 0)) aN))))))))
noncomputable def F_law_name : Fn := fnM 2 1 d_law_name
/-- _law_op -/
noncomputable def d_law_op : Fs := (sSeq (sSet 2 (eCall 2 F_law_rich (aC (eV 0) (aC (eV 1) aN))))
  (sSeq (sSet 3 (op2 vFdiv (eV 2) (eC (.int 40))))
  (sSeq (sSet 4 (op2 vFdiv (eV 2) (eC (.int 480))))
  (sSeq (sSet 5 (op2 vFdiv (eV 2) (eC (.int 5760))))
  (sSeq (sSet 6 (op2 vIx (eLst (aC (eC (.str "create")) (aC (eC (.str "create")) (aC (eC (.str "issue")) (aC (eC (.str "issue")) (aC (eC (.str "burn")) (aC (eC (.str "pay")) (aC (eC (.str "hold")) (aC (eC (.str "settle")) (aC (eC (.str "release")) (aC (eC (.str "close")) aN))))))))))) (op2 vMod (eV 2) (eC (.int 10)))))
  (sSeq (sSet 7 (eCall 1 F_law_amount (aC (eV 5) aN)))
  (sSeq (sIf (tAndF (tsB (op2 vEq (eV 6) (eC (.str "issue")))) (tsB (op2 vEq (op2 vMod (op2 vFdiv (eV 5) (eC (.int 36))) (eC (.int 8))) (eC (.int 0))))) (sSet 7 (op2 vSub (op2 vPow (eC (.int 10)) (eC (.int 15))) (op2 vMod (op2 vFdiv (eV 5) (eC (.int 288))) (eC (.int 4))))) sNx)
  (sRet (eTup (aC (eV 6) (aC (op2 vSub (op1 vNeg (eC (.int 1))) (op2 vMod (op2 vFdiv (eV 2) (eC (.int 10))) (eC (.int 4)))) (aC (eCall 1 F_law_name (aC (eV 3) aN)) (aC (eCall 1 F_law_name (aC (eV 4) aN)) (aC (eV 7) (aC (eCall 1 F_law_key (aC (op2 vFdiv (eV 5) (eC (.int 36))) aN)) aN)))))))))))))))
noncomputable def F_law_op : Fn := fnM 8 2 d_law_op
/-- _law_close -/
noncomputable def d_law_close : Fs := (sSeq (sIf (tsB (op2 vNotIn (op2 vIx (eV 1) (eC (.int 2))) (op2 vIx (eV 0) (eC (.int 0))))) (sRet (eC (.str "missing"))) sNx)
  (sSeq (sIf (tsB (op2 vNe (op2 vIx (op2 vIx (eV 0) (eC (.int 0))) (op2 vIx (eV 1) (eC (.int 2)))) (op2 vIx (eV 1) (eC (.int 1))))) (sRet (eC (.str "owner"))) sNx)
  (sSeq (sIf (tsB (op2 vNe (op2 vIx (op2 vIx (eV 0) (eC (.int 1))) (op2 vIx (eV 1) (eC (.int 2)))) (eC (.int 0)))) (sRet (eC (.str "busy"))) sNx)
  (sSeq (sLock (selD (op2 vIx (eV 0) (eC (.int 2)))) (sFor (iKeysF (op2 vIx (eV 0) (eC (.int 2)))) (gN 2) (sIf (tsB (op2 vIn (op2 vIx (eV 1) (eC (.int 2))) (eLst (aC (op2 vIx (op2 vIx (op2 vIx (eV 0) (eC (.int 2))) (eV 2)) (eC (.int 0))) (aC (op2 vIx (op2 vIx (op2 vIx (eV 0) (eC (.int 2))) (eV 2)) (eC (.int 1))) aN))))) (sRet (eC (.str "busy"))) sNx)))
  (sRet (eC (.str "")))))))
noncomputable def F_law_close : Fn := fnM 3 2 d_law_close
/-- _law_funds -/
noncomputable def d_law_funds : Fs := (sSeq (sIf (tsB (op2 vNe (op2 vIx (op2 vIx (eV 0) (eC (.int 0))) (eV 2)) (eV 1))) (sRet (eC (.str "owner"))) sNx)
  (sSeq (sIf (tsB (op2 vLt (op2 vIx (op2 vIx (eV 0) (eC (.int 1))) (eV 2)) (eV 3))) (sRet (eC (.str "funds"))) sNx)
  (sRet (eC (.str "")))))
noncomputable def F_law_funds : Fn := fnM 4 4 d_law_funds
/-- _law_payment -/
noncomputable def d_law_payment : Fs := (sSeq (sIf (tOrF (tsB (op2 vNotIn (op2 vIx (eV 1) (eC (.int 2))) (op2 vIx (eV 0) (eC (.int 0))))) (tsB (op2 vNotIn (op2 vIx (eV 1) (eC (.int 3))) (op2 vIx (eV 0) (eC (.int 0)))))) (sRet (eC (.str "missing"))) sNx)
  (sRet (eCall 4 F_law_funds (aC (eV 0) (aC (op2 vIx (eV 1) (eC (.int 1))) (aC (op2 vIx (eV 1) (eC (.int 2))) (aC (op2 vIx (eV 1) (eC (.int 4))) aN)))))))
noncomputable def F_law_payment : Fn := fnM 2 2 d_law_payment
/-- _law_reason -/
noncomputable def d_law_reason : Fs := (sSeq (sAsg (eV 1) (gT [2, 3, 4, 5, 6, 7]))
  (sSeq (sIf (tsB (op2 vEq (eV 2) (eC (.str "create")))) (sSeq (sIf (tsB (op2 vIn (eV 4) (op2 vIx (eV 0) (eC (.int 0))))) (sRet (eC (.str "taken"))) sNx)
  (sRet (eIf (tsB (op2 vGe (opS vLen (aC (op2 vIx (eV 0) (eC (.int 0))) aN)) (eC (.int 100)))) (eC (.str "full")) (eC (.str ""))))) sNx)
  (sSeq (sIf (tsB (op2 vEq (eV 2) (eC (.str "close")))) (sRet (eCall 2 F_law_close (aC (eV 0) (aC (eV 1) aN)))) sNx)
  (sSeq (sIf (tsB (op2 vEq (eV 2) (eC (.str "issue")))) (sSeq (sIf (tsB (op2 vNe (eV 3) (op1 vNeg (eC (.int 1))))) (sRet (eC (.str "mint"))) sNx)
  (sSeq (sIf (tsB (op2 vNotIn (eV 4) (op2 vIx (eV 0) (eC (.int 0))))) (sRet (eC (.str "missing"))) sNx)
  (sSeq (sSet 8 (op2 vAdd (opS vSum (aC (op1 vVals (op2 vIx (eV 0) (eC (.int 1)))) aN)) (opS vSum (aC (eLock (selD (op2 vIx (eV 0) (eC (.int 2)))) (eLc (iKeysF (op2 vIx (eV 0) (eC (.int 2)))) (gN 9) [9] tYesF (op2 vIx (op2 vIx (op2 vIx (eV 0) (eC (.int 2))) (eV 9)) (eC (.int 2))))) aN))))
  (sRet (eIf (tsB (op2 vGt (op2 vAdd (eV 8) (eV 6)) (op2 vPow (eC (.int 10)) (eC (.int 15))))) (eC (.str "limit")) (eC (.str ""))))))) sNx)
  (sSeq (sIf (tsB (op2 vEq (eV 2) (eC (.str "burn")))) (sRet (eIf (tsB (op2 vIn (eV 4) (op2 vIx (eV 0) (eC (.int 0))))) (eCall 4 F_law_funds (aC (eV 0) (aC (eV 3) (aC (eV 4) (aC (eV 6) aN))))) (eC (.str "missing")))) sNx)
  (sSeq (sIf (tOrF (tsB (op2 vEq (eV 2) (eC (.str "pay")))) (tsB (op2 vEq (eV 2) (eC (.str "hold"))))) (sSeq (sSet 10 (eCall 2 F_law_payment (aC (eV 0) (aC (eV 1) aN))))
  (sSeq (sIf (tOrF (tsB (op2 vNe (eV 10) (eC (.str "")))) (tsB (op2 vEq (eV 2) (eC (.str "pay"))))) (sRet (eV 10)) sNx)
  (sSeq (sIf (tsB (op2 vIn (eV 7) (op2 vIx (eV 0) (eC (.int 2))))) (sRet (eC (.str "taken"))) sNx)
  (sRet (eIf (tsB (op2 vGe (opS vLen (aC (op2 vIx (eV 0) (eC (.int 2))) aN)) (eC (.int 100)))) (eC (.str "full")) (eC (.str ""))))))) sNx)
  (sSeq (sIf (tsB (op2 vNotIn (eV 7) (op2 vIx (eV 0) (eC (.int 2))))) (sRet (eC (.str "missing"))) sNx)
  (sSeq (sSet 11 (eIf (tsB (op2 vEq (eV 2) (eC (.str "settle")))) (eC (.int 0)) (eC (.int 1))))
  (sRet (eIf (tsB (op2 vEq (op2 vIx (op2 vIx (eV 0) (eC (.int 0))) (op2 vIx (op2 vIx (op2 vIx (eV 0) (eC (.int 2))) (eV 7)) (eV 11))) (eV 3))) (eC (.str "")) (eC (.str "owner"))))))))))))
noncomputable def F_law_reason : Fn := fnM 12 2 d_law_reason
/-- Accounts.rows -/
noncomputable def d_Accounts_rows : Fs := (sRet (eLc (iSeq (opS vSort (aC (eFld fl_owners (eV 0)) aN))) (gN 1) [1] tYesF (eTup (aC (eV 1) (aC (op2 vIx (eFld fl_owners (eV 0)) (eV 1)) (aC (op2 vIx (eFld fl_balances (eV 0)) (eV 1)) aN))))))
noncomputable def F_Accounts_rows : Fn := fnM 2 1 d_Accounts_rows
/-- Accounts.held -/
noncomputable def d_Accounts_held : Fs := (sSeq (sSet 1 (eLst aN))
  (sSeq (sFor (iSeq (opS vSort (aC (eFld fl_holds (eV 0)) aN))) (gN 2) (sSeq (sAsg (op2 vIx (eFld fl_holds (eV 0)) (eV 2)) (gT [3, 4, 5]))
  (sDrop (eBM "list" vAppend (eV 1) (aC (eTup (aC (eV 2) (aC (eV 3) (aC (eV 4) (aC (eV 5) aN))))) aN)))))
  (sRet (eV 1))))
noncomputable def F_Accounts_held : Fn := fnM 6 1 d_Accounts_held
/-- Accounts.supply -/
noncomputable def d_Accounts_supply : Fs := (sRet (eFld fl_total (eV 0)))
noncomputable def F_Accounts_supply : Fn := fnM 1 1 d_Accounts_supply
/-- _law_same -/
noncomputable def d_law_same : Fs := (sSeq (sSet 2 (eLc (iSeq (opS vSort (aC (op2 vIx (eV 1) (eC (.int 0))) aN))) (gN 3) [3] tYesF (eTup (aC (eV 3) (aC (op2 vIx (op2 vIx (eV 1) (eC (.int 0))) (eV 3)) (aC (op2 vIx (op2 vIx (eV 1) (eC (.int 1))) (eV 3)) aN))))))
  (sSeq (sSet 4 (eLc (iSeq (opS vSort (aC (op2 vIx (eV 1) (eC (.int 2))) aN))) (gN 5) [5] tYesF (eTup (aC (eV 5) (aC (op2 vIx (op2 vIx (op2 vIx (eV 1) (eC (.int 2))) (eV 5)) (eC (.int 0))) (aC (op2 vIx (op2 vIx (op2 vIx (eV 1) (eC (.int 2))) (eV 5)) (eC (.int 1))) (aC (op2 vIx (op2 vIx (op2 vIx (eV 1) (eC (.int 2))) (eV 5)) (eC (.int 2))) aN)))))))
  (sSeq (sIf (tOrF (tsB (op2 vNe (eMth [(2, 0, F_Accounts_rows)] (eV 0) aN) (eV 2))) (tsB (op2 vNe (eMth [(2, 0, F_Accounts_held)] (eV 0) aN) (eV 4)))) (sRet (eC (.bl false))) sNx)
  (sSeq (sSet 6 (op2 vAdd (opS vSum (aC (eLc (iSeq (eV 2)) (gN 7) [7] tYesF (op2 vIx (eV 7) (eC (.int 2)))) aN)) (opS vSum (aC (eLc (iSeq (eV 4)) (gN 7) [7] tYesF (op2 vIx (eV 7) (eC (.int 3)))) aN))))
  (sSeq (sFor (iSeq (eSl (eV 2) oN (oS (eC (.int 3))))) (gT [3, 8, 9]) (sIf (tOrF (tsB (op2 vNe (eMth [(2, 1, F_Accounts_owner)] (eV 0) (aC (eV 3) aN)) (eV 8))) (tsB (op2 vNe (eMth [(2, 1, F_Accounts_balance)] (eV 0) (aC (eV 3) aN)) (eV 9)))) (sRet (eC (.bl false))) sNx))
  (sRet (op2 vEq (eMth [(2, 0, F_Accounts_supply)] (eV 0) aN) (eV 6))))))))
noncomputable def F_law_same : Fn := fnM 10 2 d_law_same
/-- _law_missing -/
noncomputable def d_law_missing : Fs := (sSeq (sSet 2 (eLst aN))
  (sSeq (sFor (iRange1 (aC (eC (.int 2)) aN)) (gN 3) (sTryAs (sIf (tsB (op2 vEq (eV 3) (eC (.int 0)))) (sDrop (eMth [(2, 1, F_Accounts_balance)] (eV 0) (aC (eV 1) aN))) (sDrop (eMth [(2, 1, F_Accounts_owner)] (eV 0) (aC (eV 1) aN)))) ext_LedgerError 4 (fun x => (sDrop (eBM "list" vAppend (eV 2) (aC (eAnd (eXis 4 xis_Refused x) (eXis 4 xis_ValueError x)) aN))))))
  (sRet (op2 vEq (eV 2) (eLst (aC (eC (.bl true)) (aC (eC (.bl true)) aN)))))))
noncomputable def F_law_missing : Fn := fnM 5 2 d_law_missing
/-- _law_strange -/
noncomputable def d_law_strange : Fs := (sSeq (sSet 1 (eC (.str "abcdefghijklmnopqrstuvwxyz")))
  (sSeq (sFor (iRange1 (aC (eC (.int 120)) aN)) (gN 2) (sSeq (sSet 3 (op2 vAdd (op2 vAdd (eC (.str "q")) (op2 vIx (eV 1) (op2 vFdiv (eV 2) (eC (.int 26))))) (op2 vIx (eV 1) (op2 vMod (eV 2) (eC (.int 26))))))
  (sIf (tsB (op2 vNotIn (eV 3) (op2 vIx (eV 0) (eC (.int 0))))) (sRet (eV 3)) sNx)))
  (sRet (eC (.str "")))))
noncomputable def F_law_strange : Fn := fnM 4 1 d_law_strange
/-- law -/
noncomputable def d_law : Fs := (sSeq (sSet 1 (eMake 2 4 0 F_Accounts_init aN))
  (sSeq (sSet 2 (eLst (aC eDnew (aC eDnew (aC eDnew aN)))))
  (sSeq (sIf (tsB (op2 vNe (eLst (aC (eC (.int 1000000000000000)) (aC (eC (.int 100)) (aC (eC (.int 100)) aN)))) (eLst (aC (op2 vPow (eC (.int 10)) (eC (.int 15))) (aC (eC (.int 100)) (aC (eC (.int 100)) aN)))))) (sRet (eC (.bl false))) sNx)
  (sSeq (sIf (tAndF (tsB (op2 vGt (opS vLen (aC (eV 0) aN)) (eC (.int 0)))) (tsB (op2 vEq (op2 vMod (opS vInt (aC (op2 vIx (eV 0) (eC (.int 0))) aN)) (eC (.int 6))) (eC (.int 5))))) (sFor (iRange1 (aC (op2 vAdd (eC (.int 98)) (op2 vMod (op2 vFdiv (opS vInt (aC (op2 vIx (eV 0) (eC (.int 0))) aN)) (eC (.int 6))) (eC (.int 3)))) aN)) (gN 3) (sSeq (sSet 4 (op2 vAdd (op2 vAdd (eC (.str "z")) (op2 vIx (eC (.str "abcdefghij")) (op2 vFdiv (eV 3) (eC (.int 10))))) (op2 vIx (eC (.str "abcdefghij")) (op2 vMod (eV 3) (eC (.int 10))))))
  (sFor (iSeq (eLst (aC (eTup (aC (eC (.str "create")) (aC (op1 vNeg (eC (.int 2))) (aC (eV 4) (aC (eC (.str "")) (aC (eC (.int 0)) (aC (eC (.str "")) aN))))))) (aC (eTup (aC (eC (.str "hold")) (aC (op1 vNeg (eC (.int 2))) (aC (eV 4) (aC (eV 4) (aC (eC (.int 0)) (aC (eV 4) aN))))))) aN)))) (gN 5) (sSeq (sIf (tsB (op2 vNe (eCall 2 F_law_call (aC (eV 1) (aC (eV 5) aN))) (eC (.str "")))) (sRet (eC (.bl false))) sNx)
  (sDrop (eCall 2 F_law_apply (aC (eV 2) (aC (eV 5) aN)))))))) sNx)
  (sSeq (sFor (iRange1 (aC (opS vLen (aC (eV 0) aN)) aN)) (gN 3) (sSeq (sSet 5 (eCall 2 F_law_op (aC (op2 vIx (eV 0) (eV 3)) (aC (eV 3) aN))))
  (sSeq (sSet 6 (eCall 2 F_law_reason (aC (eV 2) (aC (eV 5) aN))))
  (sSeq (sIf (tsB (op2 vNe (eCall 2 F_law_call (aC (eV 1) (aC (eV 5) aN))) (eV 6))) (sRet (eC (.bl false))) sNx)
  (sSeq (sIf (tsB (op2 vEq (eV 6) (eC (.str "")))) (sDrop (eCall 2 F_law_apply (aC (eV 2) (aC (eV 5) aN)))) sNx)
  (sIf (tNotF (tsB (eCall 2 F_law_same (aC (eV 1) (aC (eV 2) aN))))) (sRet (eC (.bl false))) sNx))))))
  (sRet (eCall 2 F_law_missing (aC (eV 1) (aC (eCall 1 F_law_strange (aC (eV 2) aN)) aN)))))))))
noncomputable def F_law : Fn := fnM 7 1 d_law
end Lw

set_option autoImplicit false
set_option maxRecDepth 100000
set_option maxHeartbeats 4000000
set_option linter.all false
namespace Lw
open PySem PySem.Spec L2 Mi
/-! ### dicts of texts -/
def aget {α : Type} : List (Str × α) → Str → Option α
  | [], _ => none
  | p :: r, k => if p.1 = k then some p.2 else aget r k
def amap {α : Type} (l : List (Str × α)) (k : Str) (v : α) : List (Str × α) := l.map fun p => if p.1 = k then (p.1, v) else p
def aput {α : Type} (l : List (Str × α)) (k : Str) (v : α) : List (Str × α) := if (aget l k).isSome = true then amap l k v else l ++ [(k, v)]
def adel {α : Type} (l : List (Str × α)) (k : Str) : List (Str × α) := l.filter fun p => decide (p.1 ≠ k)
def kvs {α : Type} (e : α → D) (l : List (Str × α)) : List (Key × D) := l.map fun p => (.inr p.1, e p.2)
section
variable {α : Type} (e : α → D) (l : List (Str × α)) (k j : Str) (v w : α)
theorem kvs_get : dGet (kvs e l) (.inr k) = (aget l k).map e := by
  unfold dGet kvs
  induction l with
  | nil => rfl
  | cons p r ih =>
    rw [List.map_cons, List.find?_cons]
    by_cases h : p.1 = k
    · simp [h, aget]
    · simp only [Sum.inr.injEq, h, decide_false, aget, if_false]
      exact ih
theorem aget_any : (l.any fun p => decide (p.1 = k)) = (aget l k).isSome := by
  induction l with
  | nil => rfl
  | cons p r ih =>
    by_cases h : p.1 = k <;> simp [h, aget, ih]
theorem kvs_put : dPut (kvs e l) (.inr k) (e v) = kvs e (aput l k v) := by
  unfold dPut aput kvs amap
  rw [List.any_map]
  have h : ((fun kv : Key × D => decide (kv.1 = Sum.inr k)) ∘ fun p : Str × α => ((Sum.inr p.1 : Key), e p.2)) = fun p => decide (p.1 = k) := by
    funext p
    simp
  rw [h, aget_any]
  by_cases hc : (aget l k).isSome = true
  · rw [if_pos hc, if_pos hc, List.map_map, List.map_map]
    refine List.map_congr_left fun p _ => ?_
    by_cases hp : p.1 = k <;> simp [hp]
  · rw [if_neg hc, if_neg hc, List.map_append]
    rfl
theorem kvs_del : dDel (kvs e l) (.inr k) = kvs e (adel l k) := by
  unfold dDel adel kvs
  rw [List.filter_map]
  congr 1
  refine List.filter_congr fun p _ => ?_
  simp
theorem kvs_len : (kvs e l).length = l.length := by unfold kvs; simp
variable {l k j v w}
theorem aget_some (h : aget l k = some v) : (k, v) ∈ l := by
  induction l with
  | nil => cases h
  | cons p r ih =>
    unfold aget at h
    by_cases hp : p.1 = k
    · rw [if_pos hp] at h
      cases h
      subst hp
      exact List.mem_cons_self
    · rw [if_neg hp] at h
      exact List.mem_cons_of_mem _ (ih h)
theorem aget_none : aget l k = none ↔ k ∉ l.map (·.1) := by
  induction l with
  | nil => simp [aget]
  | cons p r ih =>
    by_cases hp : p.1 = k
    · simp [aget, hp]
    · have hp' : ¬ k = p.1 := fun z => hp z.symm
      simp only [aget, hp, if_false, ih, List.map_cons, List.mem_cons, hp', false_or]
theorem aget_mem (h : k ∈ l.map (·.1)) : ∃ v, aget l k = some v := by
  cases e : aget l k with
  | some v => exact ⟨v, rfl⟩
  | none => exact absurd h (aget_none.mp e)
theorem aget_key (h : aget l k = some v) : k ∈ l.map (·.1) := List.mem_map.mpr ⟨_, aget_some h, rfl⟩
theorem aget_of (nd : (l.map (·.1)).Nodup) (h : (k, v) ∈ l) : aget l k = some v := by
  induction l with
  | nil => cases h
  | cons p r ih =>
    rw [List.map_cons, List.nodup_cons] at nd
    unfold aget
    rcases List.mem_cons.mp h with e | h1
    · subst e
      simp
    · have ne : p.1 ≠ k := by
        rintro rfl
        exact nd.1 (List.mem_map.mpr ⟨_, h1, rfl⟩)
      rw [if_neg ne]
      exact ih nd.2 h1
theorem aput_new (h : aget l k = none) : aput l k v = l ++ [(k, v)] := by
  unfold aput
  rw [h]
  rfl
theorem aput_old (h : aget l k = some w) : aput l k v = amap l k v := by
  unfold aput
  rw [h]
  rfl
theorem amap_keys : (amap l k v).map (·.1) = l.map (·.1) := by
  unfold amap
  rw [List.map_map]
  refine List.map_congr_left fun p _ => ?_
  by_cases hp : p.1 = k <;> simp [hp]
theorem amap_len : (amap l k v).length = l.length := by unfold amap; simp
theorem adel_keys : (adel l k).map (·.1) = (l.map (·.1)).filter fun x => decide (x ≠ k) := by
  unfold adel
  rw [List.filter_map]
  rfl
theorem aget_amap : aget (amap l k v) j = if j = k then (aget l k).map (fun _ => v) else aget l j := by
  induction l with
  | nil => by_cases h : j = k <;> simp [amap, aget, h]
  | cons p r ih =>
    unfold amap at ih ⊢
    rw [List.map_cons]
    unfold aget
    by_cases hp : p.1 = k
    · by_cases hj : j = k
      · simp [hp, hj]
      · have : ¬ k = j := fun z => hj z.symm
        simp [hp, hj, this, ih]
    · by_cases hj : j = k
      · subst hj
        simp [hp] at ih ⊢
        exact ih
      · by_cases hpj : p.1 = j
        · simp [hp, hj, hpj]
        · simp [hp, hj, hpj] at ih ⊢
          exact ih
theorem aget_app : aget (l ++ [(k, v)]) j = (aget l j).or (if j = k then some v else none) := by
  induction l with
  | nil =>
    by_cases h : j = k
    · simp [aget, h]
    · have : ¬ k = j := fun z => h z.symm
      simp [aget, h, this]
  | cons p r ih =>
    rw [List.cons_append]
    unfold aget
    by_cases hp : p.1 = j
    · simp [hp]
    · simp [hp, ih]
theorem aget_adel : aget (adel l k) j = if j = k then none else aget l j := by
  induction l with
  | nil => simp [adel, aget]
  | cons p r ih =>
    unfold adel at ih ⊢
    rw [List.filter_cons]
    by_cases hp : p.1 = k
    · by_cases hj : j = k
      · simp [hp, hj] at ih ⊢
        exact ih
      · have : ¬ k = j := fun z => hj z.symm
        simp [hp, hj, aget, this] at ih ⊢
        exact ih
    · by_cases hj : j = k
      · subst hj
        simp [hp, aget] at ih ⊢
        exact ih
      · by_cases hpj : p.1 = j
        · subst hpj
          simp [hp, aget]
        · simp [hp, hj, hpj, aget] at ih ⊢
          exact ih
end
end Lw

set_option autoImplicit false
set_option maxRecDepth 100000
set_option maxHeartbeats 4000000
set_option linter.all false
namespace Lw
open PySem PySem.Spec L2 Mi
structure St where
  ow : List (Str × Int)
  bal : List (Str × Int)
  hd : List (Str × (Str × Str × Int))
  t : Int
def eH (p : Str × Str × Int) : D := .tup [.str p.1, .str p.2.1, .int p.2.2]
abbrev sto (A M : St) (G : Sto) : Sto := .ins 2 [some (.ref 1), some (.ref 2), some (.ref 3), some (.int A.t)] :: .dct (kvs D.int A.ow) :: .dct (kvs D.int A.bal) :: .dct (kvs eH A.hd) :: .dct (kvs D.int M.ow) :: .dct (kvs D.int M.bal) :: .dct (kvs eH M.hd) :: .lst [.ref 4, .ref 5, .ref 6] :: G
abbrev Res (r : Except Str St) (M : St) (G : Sto) (A : St) : Ou D := match r with
  | .ok A' => .ok .non (sto A' M G)
  | .error e => .ex ⟨1, [some (.str e)]⟩ (sto A M G)
theorem kvs_putI (l : List (Str × Int)) (k : Str) (i : Int) : dPut (kvs D.int l) (.inr k) (.int i) = kvs D.int (aput l k i) := kvs_put D.int l k i
theorem kvs_putH (l : List (Str × (Str × Str × Int))) (k s d : Str) (i : Int) : dPut (kvs eH l) (.inr k) (.tup [.str s, .str d, .int i]) = kvs eH (aput l k (s, d, i)) := kvs_put eH l k (s, d, i)
/-- the sizes fit -/
structure Fit (A : St) : Prop where
  o : A.ow.length < 16777216
  b : A.bal.length < 16777216
  h : A.hd.length < 16777216
def aCreate (A : St) (c : Int) (n : Str) : Except Str St := if (aget A.ow n).isSome = true then .error "taken" else if 100 ≤ (A.ow.length : Int) then .error "full" else .ok { A with ow := aput A.ow n c, bal := aput A.bal n 0 }
theorem create_eq (A M : St) (G : Sto) (c : Int) (n : Str) (f : Fit A) : F_Accounts_create [.ref 0, .int c, .str n] (sto A M G) = Res (aCreate A c n) M G A := by
  have f1 := f.o
  have f2 := f.b
  cases h : aget A.ow n with
  | some v => simp [F_Accounts_create, fnM, d_Accounts_create, insAt, vFld, vFldS, vIn, vNotIn, isIn, dctAt, dctW, lstAt, keyD, ofO, vIx, vAdd, vSub, vLt, vGt, vLe, vGe, vLen, lenD, vInt, vNot, vNeg, setAll, mthK, vSetI, vDelI, isDctW, isDct, vMake, fl_owners, kvs_get, h, aCreate, Res]
  | none =>
    by_cases h2 : 100 ≤ (A.ow.length : Int)
    · simp [F_Accounts_create, fnM, d_Accounts_create, insAt, vFld, vFldS, vIn, vNotIn, isIn, dctAt, dctW, lstAt, keyD, ofO, vIx, vAdd, vSub, vLt, vGt, vLe, vGe, vLen, lenD, vInt, vNot, vNeg, setAll, mthK, vSetI, vDelI, isDctW, isDct, vMake, fl_owners, kvs_get, kvs_len, h, h2, aCreate, Res]
    · simp [F_Accounts_create, fnM, d_Accounts_create, insAt, vFld, vFldS, vIn, vNotIn, isIn, dctAt, dctW, lstAt, keyD, ofO, vIx, vAdd, vSub, vLt, vGt, vLe, vGe, vLen, lenD, vInt, vNot, vNeg, setAll, mthK, vSetI, vDelI, isDctW, isDct, vMake, fl_owners, fl_balances, kvs_get, kvs_len, kvs_putI, h, h2, aCreate, Res, f1, f2]
theorem owner_eq (A M : St) (G : Sto) (n : Str) : F_Accounts_owner [.ref 0, .str n] (sto A M G) = match aget A.ow n with
    | none => .ex ⟨1, [some (.str "missing")]⟩ (sto A M G)
    | some c => .ok (.int c) (sto A M G) := by
  cases h : aget A.ow n <;> simp [F_Accounts_owner, fnM, d_Accounts_owner, h, insAt, vFld, vFldS, vIn, vNotIn, isIn, dctAt, dctW, lstAt, keyD, ofO, vIx, vAdd, vSub, vLt, vGt, vLe, vGe, vLen, lenD, vInt, vNot, vNeg, setAll, mthK, vSetI, vDelI, isDctW, isDct, vMake, fl_owners, kvs_get]
theorem balance_eq (A M : St) (G : Sto) (n : Str) : F_Accounts_balance [.ref 0, .str n] (sto A M G) = match aget A.bal n with
    | none => .ex ⟨1, [some (.str "missing")]⟩ (sto A M G)
    | some c => .ok (.int c) (sto A M G) := by
  cases h : aget A.bal n <;> simp [F_Accounts_balance, fnM, d_Accounts_balance, h, insAt, vFld, vFldS, vIn, vNotIn, isIn, dctAt, dctW, lstAt, keyD, ofO, vIx, vAdd, vSub, vLt, vGt, vLe, vGe, vLen, lenD, vInt, vNot, vNeg, setAll, mthK, vSetI, vDelI, isDctW, isDct, vMake, fl_balances, kvs_get]
def aFunds (A : St) (c : Int) (n : Str) (a : Int) : Except Str St := match aget A.ow n with
  | none => .error "missing"
  | some o => if o = c then match aget A.bal n with
    | some b => if b < a then .error "funds" else .ok A
    | none => .error "?" else .error "owner"
theorem funds_eq (A M : St) (G : Sto) (c a : Int) (n : Str) (hb : (aget A.ow n).isSome = true → (aget A.bal n).isSome = true) : F_Accounts_check_funds [.ref 0, .int c, .str n, .int a] (sto A M G) = Res (aFunds A c n a) M G A := by
  have q := owner_eq A M G n
  cases h : aget A.ow n with
  | none =>
    rw [h] at q
    simp [F_Accounts_check_funds, fnM, d_Accounts_check_funds, insAt, vFld, vFldS, vIn, vNotIn, isIn, dctAt, dctW, lstAt, keyD, ofO, vIx, vAdd, vSub, vLt, vGt, vLe, vGe, vLen, lenD, vInt, vNot, vNeg, setAll, mthK, vSetI, vDelI, isDctW, isDct, vMake, aFunds, h, q, Res]
  | some o =>
    rw [h] at q hb
    obtain ⟨b, hb'⟩ := Option.isSome_iff_exists.mp (hb rfl)
    by_cases h1 : o = c
    · by_cases h2 : b < a
      · simp [F_Accounts_check_funds, fnM, d_Accounts_check_funds, insAt, vFld, vFldS, vIn, vNotIn, isIn, dctAt, dctW, lstAt, keyD, ofO, vIx, vAdd, vSub, vLt, vGt, vLe, vGe, vLen, lenD, vInt, vNot, vNeg, setAll, mthK, vSetI, vDelI, isDctW, isDct, vMake, aFunds, h, hb', q, h1, h2, Res, fl_balances, kvs_get]
      · simp [F_Accounts_check_funds, fnM, d_Accounts_check_funds, insAt, vFld, vFldS, vIn, vNotIn, isIn, dctAt, dctW, lstAt, keyD, ofO, vIx, vAdd, vSub, vLt, vGt, vLe, vGe, vLen, lenD, vInt, vNot, vNeg, setAll, mthK, vSetI, vDelI, isDctW, isDct, vMake, aFunds, h, hb', q, h1, h2, Res, fl_balances, kvs_get]
    · simp [F_Accounts_check_funds, fnM, d_Accounts_check_funds, insAt, vFld, vFldS, vIn, vNotIn, isIn, dctAt, dctW, lstAt, keyD, ofO, vIx, vAdd, vSub, vLt, vGt, vLe, vGe, vLen, lenD, vInt, vNot, vNeg, setAll, mthK, vSetI, vDelI, isDctW, isDct, vMake, aFunds, h, q, h1, Res]
end Lw

set_option autoImplicit false
set_option maxRecDepth 100000
set_option maxHeartbeats 4000000
set_option linter.all false
namespace Lw
open PySem PySem.Spec L2 Mi
def St.b (A : St) (n : Str) : Int := (aget A.bal n).getD 0
/-- every account has a balance -/
def Bal (A : St) : Prop := ∀ n, (aget A.ow n).isSome = (aget A.bal n).isSome
theorem Bal.get {A : St} (h : Bal A) {n : Str} {o : Int} (e : aget A.ow n = some o) : aget A.bal n = some (A.b n) := by
  have q := h n
  rw [e] at q
  obtain ⟨b, hb⟩ := Option.isSome_iff_exists.mp q.symm
  unfold St.b
  rw [hb]
  rfl
def aFund (A : St) (c : Int) (n : Str) (a : Int) : Except Str St := match aget A.ow n with
  | none => .error "missing"
  | some o => if o = c then if A.b n < a then .error "funds" else .ok A else .error "owner"
theorem fund_eq (A M : St) (G : Sto) (c a : Int) (n : Str) (hb : Bal A) : F_Accounts_check_funds [.ref 0, .int c, .str n, .int a] (sto A M G) = Res (aFund A c n a) M G A := by
  rw [funds_eq A M G c a n (fun h => by rw [← hb n]; exact h)]
  unfold aFunds aFund
  cases h : aget A.ow n with
  | none => rfl
  | some o =>
    simp only [hb.get h]
def aBurn (A : St) (c : Int) (n : Str) (a : Int) : Except Str St := match aFund A c n a with
  | .error e => .error e
  | .ok _ => .ok { A with bal := aput A.bal n (A.b n - a), t := A.t - a }
theorem fund_ok {A A' : St} {c a : Int} {n : Str} (h : aFund A c n a = .ok A') : ∃ o, aget A.ow n = some o ∧ o = c ∧ ¬ A.b n < a ∧ A' = A := by
  unfold aFund at h
  cases e : aget A.ow n with
  | none => rw [e] at h; cases h
  | some o =>
    rw [e] at h
    simp only at h
    split at h
    · split at h
      · cases h
      · rename_i h1 h2
        cases h
        exact ⟨o, rfl, h1, h2, rfl⟩
    · cases h
theorem burn_eq (A M : St) (G : Sto) (c a : Int) (n : Str) (hb : Bal A) (f : Fit A) : F_Accounts_burn [.ref 0, .int c, .str n, .int a] (sto A M G) = Res (aBurn A c n a) M G A := by
  have q := fund_eq A M G c a n hb
  have f2 := f.b
  cases h : aFund A c n a with
  | error e =>
    rw [h] at q
    simp [F_Accounts_burn, fnM, d_Accounts_burn, insAt, vFld, vFldS, vIn, vNotIn, isIn, dctAt, dctW, lstAt, keyD, ofO, vIx, vAdd, vSub, vLt, vGt, vLe, vGe, vLen, lenD, vInt, vNot, vNeg, setAll, mthK, vSetI, vDelI, isDctW, isDct, vMake, aBurn, h, q, Res]
  | ok A' =>
    obtain ⟨o, h1, h2, h3, h4⟩ := fund_ok h
    subst h4
    rw [h] at q
    simp [F_Accounts_burn, fnM, d_Accounts_burn, insAt, vFld, vFldS, vIn, vNotIn, isIn, dctAt, dctW, lstAt, keyD, ofO, vIx, vAdd, vSub, vLt, vGt, vLe, vGe, vLen, lenD, vInt, vNot, vNeg, setAll, mthK, vSetI, vDelI, isDctW, isDct, vMake, aBurn, h, q, Res, fl_balances, fl_total, kvs_get, kvs_len, hb.get h1, augDK, augFK, vSub, kvs_putI, f2]
def aPaym (A : St) (c : Int) (s d : Str) (a : Int) : Except Str St := if (aget A.ow s).isSome = true ∧ (aget A.ow d).isSome = true then aFund A c s a else .error "missing"
theorem paym_eq (A M : St) (G : Sto) (c a : Int) (s d : Str) (hb : Bal A) : F_Accounts_check_payment [.ref 0, .int c, .str s, .str d, .int a] (sto A M G) = Res (aPaym A c s d a) M G A := by
  have q := fund_eq A M G c a s hb
  cases h1 : aget A.ow s with
  | none => simp [F_Accounts_check_payment, fnM, d_Accounts_check_payment, insAt, vFld, vFldS, vIn, vNotIn, isIn, dctAt, dctW, lstAt, keyD, ofO, vIx, vAdd, vSub, vLt, vGt, vLe, vGe, vLen, lenD, vInt, vNot, vNeg, setAll, mthK, vSetI, vDelI, isDctW, isDct, vMake, aPaym, h1, Res, fl_owners, kvs_get]
  | some o =>
    cases h2 : aget A.ow d with
    | none => simp [F_Accounts_check_payment, fnM, d_Accounts_check_payment, insAt, vFld, vFldS, vIn, vNotIn, isIn, dctAt, dctW, lstAt, keyD, ofO, vIx, vAdd, vSub, vLt, vGt, vLe, vGe, vLen, lenD, vInt, vNot, vNeg, setAll, mthK, vSetI, vDelI, isDctW, isDct, vMake, aPaym, h1, h2, Res, fl_owners, kvs_get]
    | some o2 =>
      cases h : aFund A c s a with
      | error e =>
        rw [h] at q
        simp [F_Accounts_check_payment, fnM, d_Accounts_check_payment, insAt, vFld, vFldS, vIn, vNotIn, isIn, dctAt, dctW, lstAt, keyD, ofO, vIx, vAdd, vSub, vLt, vGt, vLe, vGe, vLen, lenD, vInt, vNot, vNeg, setAll, mthK, vSetI, vDelI, isDctW, isDct, vMake, aPaym, h1, h2, h, q, Res, fl_owners, kvs_get]
      | ok A' =>
        obtain ⟨o, _, _, _, h4⟩ := fund_ok h
        subst h4
        rw [h] at q
        simp [F_Accounts_check_payment, fnM, d_Accounts_check_payment, insAt, vFld, vFldS, vIn, vNotIn, isIn, dctAt, dctW, lstAt, keyD, ofO, vIx, vAdd, vSub, vLt, vGt, vLe, vGe, vLen, lenD, vInt, vNot, vNeg, setAll, mthK, vSetI, vDelI, isDctW, isDct, vMake, aPaym, h1, h2, h, q, Res, fl_owners, kvs_get]
theorem paym_ok {A A' : St} {c a : Int} {s d : Str} (h : aPaym A c s d a = .ok A') : A' = A ∧ (∃ o, aget A.ow s = some o) ∧ (∃ o, aget A.ow d = some o) := by
  unfold aPaym at h
  split at h
  · rename_i h1
    obtain ⟨_, _, _, _, h2⟩ := fund_ok h
    exact ⟨h2, Option.isSome_iff_exists.mp h1.1, Option.isSome_iff_exists.mp h1.2⟩
  · cases h
def addB (l : List (Str × Int)) (n : Str) (a : Int) : List (Str × Int) := aput l n ((aget l n).getD 0 + a)
def aPay (A : St) (c : Int) (s d : Str) (a : Int) : Except Str St := match aPaym A c s d a with
  | .error e => .error e
  | .ok _ => .ok { A with bal := addB (aput A.bal s (A.b s - a)) d a }
theorem aput_len {α : Type} {l : List (Str × α)} {k : Str} {v w : α} (h : aget l k = some w) : (aput l k v).length = l.length := by
  rw [aput_old h, amap_len]
theorem aget_aput {α : Type} {l : List (Str × α)} {k j : Str} {v w : α} (h : aget l k = some w) : aget (aput l k v) j = if j = k then some v else aget l j := by
  rw [aput_old h, aget_amap, h]
  rfl
theorem pay_eq (A M : St) (G : Sto) (c a : Int) (s d : Str) (hb : Bal A) (f : Fit A) : F_Accounts_pay [.ref 0, .int c, .str s, .str d, .int a] (sto A M G) = Res (aPay A c s d a) M G A := by
  have q := paym_eq A M G c a s d hb
  have f2 := f.b
  cases h : aPaym A c s d a with
  | error e =>
    rw [h] at q
    simp [F_Accounts_pay, fnM, d_Accounts_pay, insAt, vFld, vFldS, vIn, vNotIn, isIn, dctAt, dctW, lstAt, keyD, ofO, vIx, vAdd, vSub, vLt, vGt, vLe, vGe, vLen, lenD, vInt, vNot, vNeg, setAll, mthK, vSetI, vDelI, isDctW, isDct, vMake, aPay, h, q, Res]
  | ok A' =>
    obtain ⟨h4, ⟨o, h1⟩, ⟨o2, h2⟩⟩ := paym_ok h
    subst h4
    rw [h] at q
    have g1 := hb.get h1
    have g2 := hb.get h2
    have g3 : ∀ v, (aput A'.bal s v).length = A'.bal.length := fun v => aput_len g1
    have g4 : ∃ y, aget (aput A'.bal s (A'.b s - a)) d = some y := by
      rw [aget_aput g1, g2]
      split <;> exact ⟨_, rfl⟩
    obtain ⟨y, g4⟩ := g4
    simp [F_Accounts_pay, fnM, d_Accounts_pay, insAt, vFld, vFldS, vIn, vNotIn, isIn, dctAt, dctW, lstAt, keyD, ofO, vIx, vAdd, vSub, vLt, vGt, vLe, vGe, vLen, lenD, vInt, vNot, vNeg, setAll, mthK, vSetI, vDelI, isDctW, isDct, vMake, aPay, h, q, Res, fl_balances, kvs_get, kvs_len, g1, g3, g4, augDK, vSub, vIadd, kvs_putI, f2, addB]
def aHold (A : St) (c : Int) (s d : Str) (a : Int) (k : Str) : Except Str St := match aPaym A c s d a with
  | .error e => .error e
  | .ok _ => if (aget A.hd k).isSome = true then .error "taken" else if 100 ≤ (A.hd.length : Int) then .error "full" else .ok { A with bal := aput A.bal s (A.b s - a), hd := aput A.hd k (s, d, a) }
theorem hold_eq (A M : St) (G : Sto) (c a : Int) (s d k : Str) (hb : Bal A) (f : Fit A) : F_Accounts_hold [.ref 0, .int c, .str s, .str d, .int a, .str k] (sto A M G) = Res (aHold A c s d a k) M G A := by
  have q := paym_eq A M G c a s d hb
  have f2 := f.b
  have f3 := f.h
  cases h : aPaym A c s d a with
  | error e =>
    rw [h] at q
    simp [F_Accounts_hold, fnM, d_Accounts_hold, insAt, vFld, vFldS, vIn, vNotIn, isIn, dctAt, dctW, lstAt, keyD, ofO, vIx, vAdd, vSub, vLt, vGt, vLe, vGe, vLen, lenD, vInt, vNot, vNeg, setAll, mthK, vSetI, vDelI, isDctW, isDct, vMake, aHold, h, q, Res]
  | ok A' =>
    obtain ⟨h4, ⟨o, h1⟩, ⟨o2, h2⟩⟩ := paym_ok h
    subst h4
    rw [h] at q
    have g1 := hb.get h1
    cases h5 : aget A'.hd k with
    | some x => simp [F_Accounts_hold, fnM, d_Accounts_hold, insAt, vFld, vFldS, vIn, vNotIn, isIn, dctAt, dctW, lstAt, keyD, ofO, vIx, vAdd, vSub, vLt, vGt, vLe, vGe, vLen, lenD, vInt, vNot, vNeg, setAll, mthK, vSetI, vDelI, isDctW, isDct, vMake, aHold, h, q, Res, fl_holds, kvs_get, h5]
    | none =>
      by_cases h6 : 100 ≤ (A'.hd.length : Int)
      · simp [F_Accounts_hold, fnM, d_Accounts_hold, insAt, vFld, vFldS, vIn, vNotIn, isIn, dctAt, dctW, lstAt, keyD, ofO, vIx, vAdd, vSub, vLt, vGt, vLe, vGe, vLen, lenD, vInt, vNot, vNeg, setAll, mthK, vSetI, vDelI, isDctW, isDct, vMake, aHold, h, q, Res, fl_holds, kvs_get, kvs_len, h5, h6]
      · simp [F_Accounts_hold, fnM, d_Accounts_hold, insAt, vFld, vFldS, vIn, vNotIn, isIn, dctAt, dctW, lstAt, keyD, ofO, vIx, vAdd, vSub, vLt, vGt, vLe, vGe, vLen, lenD, vInt, vNot, vNeg, setAll, mthK, vSetI, vDelI, isDctW, isDct, vMake, aHold, h, q, Res, fl_holds, fl_balances, kvs_get, kvs_len, h5, h6, g1, augDK, vSub, kvs_putI, kvs_putH, f2, f3]
def aSettle (A : St) (c : Int) (k : Str) : Except Str St := match aget A.hd k with
  | none => .error "missing"
  | some (s, d, a) => if aget A.ow s = some c then .ok { A with hd := adel A.hd k, bal := addB A.bal d a } else .error "owner"
def aRelease (A : St) (c : Int) (k : Str) : Except Str St := match aget A.hd k with
  | none => .error "missing"
  | some (s, d, a) => if aget A.ow d = some c then .ok { A with hd := adel A.hd k, bal := addB A.bal s a } else .error "owner"
/-- both ends of a hold are accounts -/
def Hin (A : St) : Prop := ∀ k s d a, aget A.hd k = some (s, d, a) → (aget A.ow s).isSome = true ∧ (aget A.ow d).isSome = true
theorem settle_eq (A M : St) (G : Sto) (c : Int) (k : Str) (hb : Bal A) (hh : Hin A) (f : Fit A) : F_Accounts_settle [.ref 0, .int c, .str k] (sto A M G) = Res (aSettle A c k) M G A := by
  have f2 := f.b
  cases h : aget A.hd k with
  | none => simp [F_Accounts_settle, fnM, d_Accounts_settle, insAt, vFld, vFldS, vIn, vNotIn, isIn, dctAt, dctW, lstAt, keyD, ofO, vIx, vAdd, vSub, vLt, vGt, vLe, vGe, vLen, lenD, vInt, vNot, vNeg, setAll, mthK, vSetI, vDelI, isDctW, isDct, vMake, aSettle, h, Res, fl_holds, kvs_get]
  | some p =>
    obtain ⟨s, d, a⟩ := p
    obtain ⟨h1, h2⟩ := hh k s d a h
    obtain ⟨o, h1⟩ := Option.isSome_iff_exists.mp h1
    obtain ⟨o2, h2⟩ := Option.isSome_iff_exists.mp h2
    have g2 := hb.get h2
    by_cases h3 : o = c
    · simp [F_Accounts_settle, fnM, d_Accounts_settle, insAt, vFld, vFldS, vIn, vNotIn, isIn, dctAt, dctW, lstAt, keyD, ofO, vIx, vAdd, vSub, vLt, vGt, vLe, vGe, vLen, lenD, vInt, vNot, vNeg, setAll, mthK, vSetI, vDelI, isDctW, isDct, vMake, aSettle, h, Res, fl_holds, fl_owners, fl_balances, kvs_get, eH, h1, h3, kvs_del, augDK, vIadd, g2, kvs_putI, kvs_len, f2, addB]
    · simp [F_Accounts_settle, fnM, d_Accounts_settle, insAt, vFld, vFldS, vIn, vNotIn, isIn, dctAt, dctW, lstAt, keyD, ofO, vIx, vAdd, vSub, vLt, vGt, vLe, vGe, vLen, lenD, vInt, vNot, vNeg, setAll, mthK, vSetI, vDelI, isDctW, isDct, vMake, aSettle, h, Res, fl_holds, fl_owners, fl_balances, kvs_get, eH, h1, h3]
theorem release_eq (A M : St) (G : Sto) (c : Int) (k : Str) (hb : Bal A) (hh : Hin A) (f : Fit A) : F_Accounts_release [.ref 0, .int c, .str k] (sto A M G) = Res (aRelease A c k) M G A := by
  have f2 := f.b
  cases h : aget A.hd k with
  | none => simp [F_Accounts_release, fnM, d_Accounts_release, insAt, vFld, vFldS, vIn, vNotIn, isIn, dctAt, dctW, lstAt, keyD, ofO, vIx, vAdd, vSub, vLt, vGt, vLe, vGe, vLen, lenD, vInt, vNot, vNeg, setAll, mthK, vSetI, vDelI, isDctW, isDct, vMake, aRelease, h, Res, fl_holds, kvs_get]
  | some p =>
    obtain ⟨s, d, a⟩ := p
    obtain ⟨h1, h2⟩ := hh k s d a h
    obtain ⟨o, h1⟩ := Option.isSome_iff_exists.mp h1
    obtain ⟨o2, h2⟩ := Option.isSome_iff_exists.mp h2
    have g2 := hb.get h1
    by_cases h3 : o2 = c
    · simp [F_Accounts_release, fnM, d_Accounts_release, insAt, vFld, vFldS, vIn, vNotIn, isIn, dctAt, dctW, lstAt, keyD, ofO, vIx, vAdd, vSub, vLt, vGt, vLe, vGe, vLen, lenD, vInt, vNot, vNeg, setAll, mthK, vSetI, vDelI, isDctW, isDct, vMake, aRelease, h, Res, fl_holds, fl_owners, fl_balances, kvs_get, eH, h2, h3, kvs_del, augDK, vIadd, g2, kvs_putI, kvs_len, f2, addB]
    · simp [F_Accounts_release, fnM, d_Accounts_release, insAt, vFld, vFldS, vIn, vNotIn, isIn, dctAt, dctW, lstAt, keyD, ofO, vIx, vAdd, vSub, vLt, vGt, vLe, vGe, vLen, lenD, vInt, vNot, vNeg, setAll, mthK, vSetI, vDelI, isDctW, isDct, vMake, aRelease, h, Res, fl_holds, fl_owners, fl_balances, kvs_get, eH, h2, h3]
def aIssue (A : St) (c : Int) (n : Str) (a : Int) : Except Str St := if c = -1 then match aget A.bal n with
  | none => .error "missing"
  | some b => if 1000000000000000 < A.t + a then .error "limit" else .ok { A with bal := aput A.bal n (b + a), t := A.t + a } else .error "mint"
theorem issue_eq (A M : St) (G : Sto) (c a : Int) (n : Str) (f : Fit A) : F_Accounts_issue [.ref 0, .int c, .str n, .int a] (sto A M G) = Res (aIssue A c n a) M G A := by
  have q := balance_eq A M G n
  have f2 := f.b
  by_cases h1 : c = -1
  · subst h1
    cases h : aget A.bal n with
    | none =>
      rw [h] at q
      simp [F_Accounts_issue, fnM, d_Accounts_issue, insAt, vFld, vFldS, vIn, vNotIn, isIn, dctAt, dctW, lstAt, keyD, ofO, vIx, vAdd, vSub, vLt, vGt, vLe, vGe, vLen, lenD, vInt, vNot, vNeg, setAll, mthK, vSetI, vDelI, isDctW, isDct, vMake, aIssue, h, q, Res]
    | some b =>
      rw [h] at q
      by_cases h2 : 1000000000000000 < A.t + a
      · simp [F_Accounts_issue, fnM, d_Accounts_issue, insAt, vFld, vFldS, vIn, vNotIn, isIn, dctAt, dctW, lstAt, keyD, ofO, vIx, vAdd, vSub, vLt, vGt, vLe, vGe, vLen, lenD, vInt, vNot, vNeg, setAll, mthK, vSetI, vDelI, isDctW, isDct, vMake, aIssue, h, q, Res, h2, fl_total]
      · simp [F_Accounts_issue, fnM, d_Accounts_issue, insAt, vFld, vFldS, vIn, vNotIn, isIn, dctAt, dctW, lstAt, keyD, ofO, vIx, vAdd, vSub, vLt, vGt, vLe, vGe, vLen, lenD, vInt, vNot, vNeg, setAll, mthK, vSetI, vDelI, isDctW, isDct, vMake, aIssue, h, q, Res, h2, fl_total, fl_balances, kvs_putI, kvs_len, f2, augFK, vIadd]
  · simp [F_Accounts_issue, fnM, d_Accounts_issue, insAt, vFld, vFldS, vIn, vNotIn, isIn, dctAt, dctW, lstAt, keyD, ofO, vIx, vAdd, vSub, vLt, vGt, vLe, vGe, vLen, lenD, vInt, vNot, vNeg, setAll, mthK, vSetI, vDelI, isDctW, isDct, vMake, aIssue, h1, Res]
end Lw

set_option autoImplicit false
set_option maxRecDepth 100000
set_option maxHeartbeats 4000000
set_option linter.all false
namespace Lw
open PySem PySem.Spec L2 Mi
def busyAt (n : Str) (p : Str × Str × Int) : Bool := decide (n = p.1) || decide (n = p.2.1)
noncomputable abbrev closeBody : Fs := sIf (tOrF (tsB (op2 vEq (eV 2) (eV 3))) (tsB (op2 vEq (eV 2) (eV 4)))) (sRaiseI 1 1 (aC (eC (.str "busy")) aN)) sNx
theorem close_loop (c : Int) (n : Str) (hn : sOk n = true) (S : Sto) : ∀ (l : List (Str × Str × Int)), (∀ p ∈ l, sOk p.1 = true ∧ sOk p.2.1 = true) → ∀ x y z : Option D, ∃ x' y' z' : Option D,
    forGo (fun _ => True) (gT [3, 4, 5]) closeBody (l.map eH) [some (.ref 0), some (.int c), some (.str n), x, y, z] S =
      if l.any (busyAt n) = true then .ex ⟨1, [some (.str "busy")]⟩ [some (.ref 0), some (.int c), some (.str n), x', y', z'] S else .nx [some (.ref 0), some (.int c), some (.str n), x', y', z'] S
  | [], _, x, y, z => ⟨x, y, z, by simp [forGo]⟩
  | p :: r, h, x, y, z => by
    obtain ⟨s, d, a⟩ := p
    obtain ⟨h1, h2⟩ := h _ List.mem_cons_self
    obtain ⟨x', y', z', ih⟩ := close_loop c n hn S r (fun q hq => h q (List.mem_cons_of_mem _ hq)) (some (.str s)) (some (.str d)) (some (.int a))
    by_cases e1 : n = s
    · refine ⟨some (.str s), some (.str d), some (.int a), ?_⟩
      subst e1
      simp [forGo, eH, insAt, vFld, vFldS, vIn, vNotIn, isIn, dctAt, dctW, lstAt, keyD, ofO, vIx, vAdd, vSub, vLt, vGt, vLe, vGe, vLen, lenD, vInt, vNot, vNeg, setAll, mthK, vSetI, vDelI, isDctW, isDct, vMake, vEq_str, hn, h1, h2, busyAt]
    · by_cases e2 : n = d
      · refine ⟨some (.str s), some (.str d), some (.int a), ?_⟩
        subst e2
        simp [forGo, eH, insAt, vFld, vFldS, vIn, vNotIn, isIn, dctAt, dctW, lstAt, keyD, ofO, vIx, vAdd, vSub, vLt, vGt, vLe, vGe, vLen, lenD, vInt, vNot, vNeg, setAll, mthK, vSetI, vDelI, isDctW, isDct, vMake, vEq_str, hn, h1, h2, busyAt, e1]
      · refine ⟨x', y', z', ?_⟩
        have hb : busyAt n (s, d, a) = false := by simp [busyAt, e1, e2]
        rw [List.map_cons, List.any_cons, hb, Bool.false_or]
        simp [forGo, eH, insAt, vFld, vFldS, vIn, vNotIn, isIn, dctAt, dctW, lstAt, keyD, ofO, vIx, vAdd, vSub, vLt, vGt, vLe, vGe, vLen, lenD, vInt, vNot, vNeg, setAll, mthK, vSetI, vDelI, isDctW, isDct, vMake, vEq_str, hn, h1, h2, e1, e2]
        exact ih
def aClose (A : St) (c : Int) (n : Str) : Except Str St := match aget A.ow n with
  | none => .error "missing"
  | some o => if o = c then if A.b n = 0 then if (A.hd.map (·.2)).any (busyAt n) = true then .error "busy" else .ok { A with ow := adel A.ow n, bal := adel A.bal n } else .error "busy" else .error "owner"
theorem kvsH_vals (l : List (Str × (Str × Str × Int))) : (kvs eH l).map (·.2) = (l.map (·.2)).map eH := by
  unfold kvs
  rw [List.map_map, List.map_map]
  rfl
theorem close_eq (A M : St) (G : Sto) (c : Int) (n : Str) (hb : Bal A) (hn : sOk n = true) (hs : ∀ p ∈ A.hd.map (·.2), sOk p.1 = true ∧ sOk p.2.1 = true) : F_Accounts_close [.ref 0, .int c, .str n] (sto A M G) = Res (aClose A c n) M G A := by
  have q := owner_eq A M G n
  cases h : aget A.ow n with
  | none =>
    rw [h] at q
    simp [F_Accounts_close, fnM, d_Accounts_close, insAt, vFld, vFldS, vIn, vNotIn, isIn, dctAt, dctW, lstAt, keyD, ofO, vIx, vAdd, vSub, vLt, vGt, vLe, vGe, vLen, lenD, vInt, vNot, vNeg, setAll, mthK, vSetI, vDelI, isDctW, isDct, vMake, aClose, h, q, Res]
  | some o =>
    rw [h] at q
    have g := hb.get h
    by_cases h1 : o = c
    · by_cases h2 : A.b n = 0
      · rw [h2] at g
        obtain ⟨x, y, z, L⟩ := close_loop c n hn (.ins 2 [some (.ref 1), some (.ref 2), some (.ref 3), some (.int A.t)] :: .dct (kvs D.int A.ow) :: .dct (kvs D.int A.bal) :: .lkd (kvs eH A.hd) :: .dct (kvs D.int M.ow) :: .dct (kvs D.int M.bal) :: .dct (kvs eH M.hd) :: .lst [.ref 4, .ref 5, .ref 6] :: G) (A.hd.map (·.2)) hs none none none
        rw [← kvsH_vals] at L
        by_cases h3 : (A.hd.map (·.2)).any (busyAt n) = true
        · rw [if_pos h3] at L
          simp [F_Accounts_close, fnM, d_Accounts_close, insAt, vFld, vFldS, vIn, vNotIn, isIn, dctAt, dctW, lstAt, keyD, ofO, vIx, vAdd, vSub, vLt, vGt, vLe, vGe, vLen, lenD, vInt, vNot, vNeg, setAll, mthK, vSetI, vDelI, isDctW, isDct, vMake, aClose, h, q, Res, h1, h2, g, fl_balances, fl_holds, kvs_get, lockK, lkAt, L, h3, unl, unlS]
        · rw [if_neg h3] at L
          simp [F_Accounts_close, fnM, d_Accounts_close, insAt, vFld, vFldS, vIn, vNotIn, isIn, dctAt, dctW, lstAt, keyD, ofO, vIx, vAdd, vSub, vLt, vGt, vLe, vGe, vLen, lenD, vInt, vNot, vNeg, setAll, mthK, vSetI, vDelI, isDctW, isDct, vMake, aClose, h, q, Res, h1, h2, g, fl_balances, fl_holds, fl_owners, kvs_get, lockK, lkAt, L, h3, unl, unlS, kvs_del]
      · simp [F_Accounts_close, fnM, d_Accounts_close, insAt, vFld, vFldS, vIn, vNotIn, isIn, dctAt, dctW, lstAt, keyD, ofO, vIx, vAdd, vSub, vLt, vGt, vLe, vGe, vLen, lenD, vInt, vNot, vNeg, setAll, mthK, vSetI, vDelI, isDctW, isDct, vMake, aClose, h, q, Res, h1, h2, g, fl_balances, kvs_get]
    · simp [F_Accounts_close, fnM, d_Accounts_close, insAt, vFld, vFldS, vIn, vNotIn, isIn, dctAt, dctW, lstAt, keyD, ofO, vIx, vAdd, vSub, vLt, vGt, vLe, vGe, vLen, lenD, vInt, vNot, vNeg, setAll, mthK, vSetI, vDelI, isDctW, isDct, vMake, aClose, h, q, Res, h1]
/-! ### the law's call -/
structure Op where
  verb : Str
  client : Int
  name : Str
  other : Str
  amount : Int
  key : Str
def Op.d (o : Op) : D := .tup [.str o.verb, .int o.client, .str o.name, .str o.other, .int o.amount, .str o.key]
def aStep (A : St) (o : Op) : Except Str St :=
  if o.verb = "create" then aCreate A o.client o.name else
  if o.verb = "close" then aClose A o.client o.name else
  if o.verb = "issue" then aIssue A o.client o.name o.amount else
  if o.verb = "burn" then aBurn A o.client o.name o.amount else
  if o.verb = "pay" then aPay A o.client o.name o.other o.amount else
  if o.verb = "hold" then aHold A o.client o.name o.other o.amount o.key else
  if o.verb = "settle" then aSettle A o.client o.key else aRelease A o.client o.key
theorem sk1 : sOk "create" = true := by decide +kernel
theorem sk2 : sOk "close" = true := by decide +kernel
theorem sk3 : sOk "issue" = true := by decide +kernel
theorem sk4 : sOk "burn" = true := by decide +kernel
theorem sk5 : sOk "pay" = true := by decide +kernel
theorem sk6 : sOk "hold" = true := by decide +kernel
theorem sk7 : sOk "settle" = true := by decide +kernel
theorem sk8 : sOk "" = true := by decide +kernel
abbrev Told (r : Except Str St) (M : St) (G : Sto) (A : St) : Ou D := match r with
  | .ok A' => .ok (.str "") (sto A' M G)
  | .error e => .ok (.str e) (sto A M G)
structure OpOk (o : Op) : Prop where
  v : sOk o.verb = true
  n : sOk o.name = true
  m : sOk o.other = true
  k : sOk o.key = true
theorem call_eq (A M : St) (G : Sto) (o : Op) (hb : Bal A) (hh : Hin A) (f : Fit A) (ho : OpOk o) (hs : ∀ p ∈ A.hd.map (·.2), sOk p.1 = true ∧ sOk p.2.1 = true) : F_law_call [.ref 0, o.d] (sto A M G) = Told (aStep A o) M G A := by
  have e1 := create_eq A M G o.client o.name f
  have e2 := close_eq A M G o.client o.name hb ho.n hs
  have e3 := issue_eq A M G o.client o.amount o.name f
  have e4 := burn_eq A M G o.client o.amount o.name hb f
  have e5 := pay_eq A M G o.client o.amount o.name o.other hb f
  have e6 := hold_eq A M G o.client o.amount o.name o.other o.key hb f
  have e7 := settle_eq A M G o.client o.key hb hh f
  have e8 := release_eq A M G o.client o.key hb hh f
  have hv := ho.v
  unfold aStep
  by_cases h1 : o.verb = "create"
  · cases hr : aCreate A o.client o.name <;> (rw [hr] at e1; simp [F_law_call, fnM, d_law_call, insAt, vFld, vFldS, vIn, vNotIn, isIn, dctAt, dctW, lstAt, keyD, ofO, vIx, vAdd, vSub, vLt, vGt, vLe, vGe, vLen, lenD, vInt, vNot, vNeg, setAll, mthK, vSetI, vDelI, isDctW, isDct, vMake, Op.d, hr, e1, Told, Res, h1, vEq_str, sk1, sk2, sk3, sk4, sk5, sk6, sk7, tryKA, ext_Refused, eXf, xf_reason, noX, clr])
  · by_cases h2 : o.verb = "close"
    · cases hr : aClose A o.client o.name <;> (rw [hr] at e2; simp [F_law_call, fnM, d_law_call, insAt, vFld, vFldS, vIn, vNotIn, isIn, dctAt, dctW, lstAt, keyD, ofO, vIx, vAdd, vSub, vLt, vGt, vLe, vGe, vLen, lenD, vInt, vNot, vNeg, setAll, mthK, vSetI, vDelI, isDctW, isDct, vMake, Op.d, hr, e2, Told, Res, h1, h2, vEq_str, sk1, sk2, sk3, sk4, sk5, sk6, sk7, tryKA, ext_Refused, eXf, xf_reason, noX, clr])
    · by_cases h3 : o.verb = "issue"
      · cases hr : aIssue A o.client o.name o.amount <;> (rw [hr] at e3; simp [F_law_call, fnM, d_law_call, insAt, vFld, vFldS, vIn, vNotIn, isIn, dctAt, dctW, lstAt, keyD, ofO, vIx, vAdd, vSub, vLt, vGt, vLe, vGe, vLen, lenD, vInt, vNot, vNeg, setAll, mthK, vSetI, vDelI, isDctW, isDct, vMake, Op.d, hr, e3, Told, Res, h1, h2, h3, vEq_str, sk1, sk2, sk3, sk4, sk5, sk6, sk7, tryKA, ext_Refused, eXf, xf_reason, noX, clr])
      · by_cases h4 : o.verb = "burn"
        · cases hr : aBurn A o.client o.name o.amount <;> (rw [hr] at e4; simp [F_law_call, fnM, d_law_call, insAt, vFld, vFldS, vIn, vNotIn, isIn, dctAt, dctW, lstAt, keyD, ofO, vIx, vAdd, vSub, vLt, vGt, vLe, vGe, vLen, lenD, vInt, vNot, vNeg, setAll, mthK, vSetI, vDelI, isDctW, isDct, vMake, Op.d, hr, e4, Told, Res, h1, h2, h3, h4, vEq_str, sk1, sk2, sk3, sk4, sk5, sk6, sk7, tryKA, ext_Refused, eXf, xf_reason, noX, clr])
        · by_cases h5 : o.verb = "pay"
          · cases hr : aPay A o.client o.name o.other o.amount <;> (rw [hr] at e5; simp [F_law_call, fnM, d_law_call, insAt, vFld, vFldS, vIn, vNotIn, isIn, dctAt, dctW, lstAt, keyD, ofO, vIx, vAdd, vSub, vLt, vGt, vLe, vGe, vLen, lenD, vInt, vNot, vNeg, setAll, mthK, vSetI, vDelI, isDctW, isDct, vMake, Op.d, hr, e5, Told, Res, h1, h2, h3, h4, h5, vEq_str, sk1, sk2, sk3, sk4, sk5, sk6, sk7, tryKA, ext_Refused, eXf, xf_reason, noX, clr])
          · by_cases h6 : o.verb = "hold"
            · cases hr : aHold A o.client o.name o.other o.amount o.key <;> (rw [hr] at e6; simp [F_law_call, fnM, d_law_call, insAt, vFld, vFldS, vIn, vNotIn, isIn, dctAt, dctW, lstAt, keyD, ofO, vIx, vAdd, vSub, vLt, vGt, vLe, vGe, vLen, lenD, vInt, vNot, vNeg, setAll, mthK, vSetI, vDelI, isDctW, isDct, vMake, Op.d, hr, e6, Told, Res, h1, h2, h3, h4, h5, h6, vEq_str, sk1, sk2, sk3, sk4, sk5, sk6, sk7, tryKA, ext_Refused, eXf, xf_reason, noX, clr])
            · by_cases h7 : o.verb = "settle"
              · cases hr : aSettle A o.client o.key <;> (rw [hr] at e7; simp [F_law_call, fnM, d_law_call, insAt, vFld, vFldS, vIn, vNotIn, isIn, dctAt, dctW, lstAt, keyD, ofO, vIx, vAdd, vSub, vLt, vGt, vLe, vGe, vLen, lenD, vInt, vNot, vNeg, setAll, mthK, vSetI, vDelI, isDctW, isDct, vMake, Op.d, hr, e7, Told, Res, h1, h2, h3, h4, h5, h6, h7, vEq_str, sk1, sk2, sk3, sk4, sk5, sk6, sk7, tryKA, ext_Refused, eXf, xf_reason, noX, clr])
              · cases hr : aRelease A o.client o.key <;> (rw [hr] at e8; simp [F_law_call, fnM, d_law_call, insAt, vFld, vFldS, vIn, vNotIn, isIn, dctAt, dctW, lstAt, keyD, ofO, vIx, vAdd, vSub, vLt, vGt, vLe, vGe, vLen, lenD, vInt, vNot, vNeg, setAll, mthK, vSetI, vDelI, isDctW, isDct, vMake, Op.d, hr, e8, Told, Res, hv, h1, h2, h3, h4, h5, h6, h7, vEq_str, sk1, sk2, sk3, sk4, sk5, sk6, sk7, tryKA, ext_Refused, eXf, xf_reason, noX, clr])
end Lw

set_option autoImplicit false
set_option maxRecDepth 100000
set_option maxHeartbeats 4000000
set_option linter.all false
namespace Lw
open PySem PySem.Spec L2 Mi
/-! ### the law's own reckoning -/
theorem mfunds_eq (A M : St) (G : Sto) (c a : Int) (n : Str) (o : Int) (hb : Bal M) (h : aget M.ow n = some o) : F_law_funds [.ref 7, .int c, .str n, .int a] (sto A M G) = .ok (.str (match aFund M c n a with
    | .ok _ => ""
    | .error e => e)) (sto A M G) := by
  have g := hb.get h
  by_cases h1 : o = c
  · by_cases h2 : M.b n < a
    · simp [F_law_funds, fnM, d_law_funds, insAt, vFld, vFldS, vIn, vNotIn, isIn, dctAt, dctW, lstAt, keyD, ofO, vIx, vAdd, vSub, vLt, vGt, vLe, vGe, vLen, lenD, vInt, vNot, vNeg, setAll, mthK, vSetI, vDelI, isDctW, isDct, vMake, atI, ixN, kvs_get, h, g, h1, h2, aFund]
    · simp [F_law_funds, fnM, d_law_funds, insAt, vFld, vFldS, vIn, vNotIn, isIn, dctAt, dctW, lstAt, keyD, ofO, vIx, vAdd, vSub, vLt, vGt, vLe, vGe, vLen, lenD, vInt, vNot, vNeg, setAll, mthK, vSetI, vDelI, isDctW, isDct, vMake, atI, ixN, kvs_get, h, g, h1, h2, aFund]
  · simp [F_law_funds, fnM, d_law_funds, insAt, vFld, vFldS, vIn, vNotIn, isIn, dctAt, dctW, lstAt, keyD, ofO, vIx, vAdd, vSub, vLt, vGt, vLe, vGe, vLen, lenD, vInt, vNot, vNeg, setAll, mthK, vSetI, vDelI, isDctW, isDct, vMake, atI, ixN, kvs_get, h, g, h1, aFund]
theorem mpaym_eq (A M : St) (G : Sto) (o : Op) (hb : Bal M) : F_law_payment [.ref 7, o.d] (sto A M G) = .ok (.str (match aPaym M o.client o.name o.other o.amount with
    | .ok _ => ""
    | .error e => e)) (sto A M G) := by
  cases h1 : aget M.ow o.name with
  | none => simp [F_law_payment, fnM, d_law_payment, insAt, vFld, vFldS, vIn, vNotIn, isIn, dctAt, dctW, lstAt, keyD, ofO, vIx, vAdd, vSub, vLt, vGt, vLe, vGe, vLen, lenD, vInt, vNot, vNeg, setAll, mthK, vSetI, vDelI, isDctW, isDct, vMake, atI, ixN, kvs_get, h1, aPaym, Op.d]
  | some o1 =>
    cases h2 : aget M.ow o.other with
    | none => simp [F_law_payment, fnM, d_law_payment, insAt, vFld, vFldS, vIn, vNotIn, isIn, dctAt, dctW, lstAt, keyD, ofO, vIx, vAdd, vSub, vLt, vGt, vLe, vGe, vLen, lenD, vInt, vNot, vNeg, setAll, mthK, vSetI, vDelI, isDctW, isDct, vMake, atI, ixN, kvs_get, h1, h2, aPaym, Op.d]
    | some o2 =>
      have q := mfunds_eq A M G o.client o.amount o.name o1 hb h1
      simp [F_law_payment, fnM, d_law_payment, insAt, vFld, vFldS, vIn, vNotIn, isIn, dctAt, dctW, lstAt, keyD, ofO, vIx, vAdd, vSub, vLt, vGt, vLe, vGe, vLen, lenD, vInt, vNot, vNeg, setAll, mthK, vSetI, vDelI, isDctW, isDct, vMake, atI, ixN, kvs_get, h1, h2, aPaym, Op.d, q]
noncomputable abbrev mcBody : Fs := sIf (tsB (op2 vIn (op2 vIx (eV 1) (eC (.int 2))) (eLst (aC (op2 vIx (op2 vIx (op2 vIx (eV 0) (eC (.int 2))) (eV 2)) (eC (.int 0))) (aC (op2 vIx (op2 vIx (op2 vIx (eV 0) (eC (.int 2))) (eV 2)) (eC (.int 1))) aN))))) (sRet (eC (.str "busy"))) sNx
abbrev stoL (A M : St) (G : Sto) : Sto := .ins 2 [some (.ref 1), some (.ref 2), some (.ref 3), some (.int A.t)] :: .dct (kvs D.int A.ow) :: .dct (kvs D.int A.bal) :: .dct (kvs eH A.hd) :: .dct (kvs D.int M.ow) :: .dct (kvs D.int M.bal) :: .lkd (kvs eH M.hd) :: .lst [.ref 4, .ref 5, .ref 6] :: G
theorem mclose_loop (A M : St) (o : Op) (hn : sOk o.name = true) : ∀ (l : List (Str × (Str × Str × Int))), (∀ p ∈ l, aget M.hd p.1 = some p.2 ∧ sOk p.2.1 = true ∧ sOk p.2.2.1 = true) → ∀ (x : Option D) (G : Sto), ∃ (x' : Option D) (E : Sto),
    forGo (fun _ => True) (gN 2) mcBody (l.map fun p => D.str p.1) [some (.ref 7), some o.d, x] (stoL A M G) =
      if (l.map (·.2)).any (busyAt o.name) = true then .rt (.str "busy") (stoL A M (G ++ E)) else .nx [some (.ref 7), some o.d, x'] (stoL A M (G ++ E))
  | [], _, x, G => ⟨x, [], by simp [forGo_nil]⟩
  | p :: r, h, x, G => by
    obtain ⟨k, s, d, a⟩ := p
    obtain ⟨h0, h1, h2⟩ := h _ List.mem_cons_self
    obtain ⟨x', E, ih⟩ := mclose_loop A M o hn r (fun q hq => h q (List.mem_cons_of_mem _ hq)) (some (.str k)) (G ++ [.lst [.str s, .str d]])
    have hi := isIn_str2 (stoL A M (G ++ [.lst [.str s, .str d]])) (G.length + 8) o.name s d (by simp) hn h1 h2
    by_cases hb : busyAt o.name (s, d, a) = true
    · refine ⟨some (.str k), [.lst [.str s, .str d]], ?_⟩
      have hb' : (decide (o.name = s) || decide (o.name = d)) = true := hb
      rw [hb'] at hi
      simp only [List.map_cons, List.any_cons, hb, Bool.true_or, if_true]
      rw [forGo_cons _ _ _ _ _ _ _ True.intro]
      simp [insAt, vFld, vFldS, vNotIn, dctAt, dctW, lstAt, keyD, vIx, vAdd, vSub, vLt, vGt, vLe, vGe, vLen, lenD, vInt, vNot, vNeg, setAll, mthK, vSetI, vDelI, isDctW, isDct, vMake, Op.d, atI, ixN, kvs_get, h0, eH] at hi ⊢
      simp [hi]
    · have hb0 : busyAt o.name (s, d, a) = false := by simpa using hb
      refine ⟨x', .lst [.str s, .str d] :: E, ?_⟩
      have hb' : (decide (o.name = s) || decide (o.name = d)) = false := hb0
      rw [hb'] at hi
      simp only [List.map_cons, List.any_cons, hb0, Bool.false_or]
      rw [forGo_cons _ _ _ _ _ _ _ True.intro]
      simp [insAt, vFld, vFldS, vNotIn, dctAt, dctW, lstAt, keyD, vIx, vAdd, vSub, vLt, vGt, vLe, vGe, vLen, lenD, vInt, vNot, vNeg, setAll, mthK, vSetI, vDelI, isDctW, isDct, vMake, Op.d, atI, ixN, kvs_get, h0, eH] at hi ih ⊢
      simp [hi]
      exact ih
end Lw

set_option autoImplicit false
set_option maxRecDepth 100000
set_option maxHeartbeats 4000000
set_option linter.all false
namespace Lw
open PySem PySem.Spec L2 Mi
structure Inv (A : St) : Prop where
  f1 : A.ow.length ≤ 100
  f2 : A.bal.length ≤ 100
  f3 : A.hd.length ≤ 100
  nd : (A.ow.map (·.1)).Nodup
  ks : A.ow.map (·.1) = A.bal.map (·.1)
  hnd : (A.hd.map (·.1)).Nodup
  hin : Hin A
  oso : ∀ k ∈ A.ow.map (·.1), sOk k = true
  hso : ∀ p ∈ A.hd, sOk p.1 = true ∧ sOk p.2.1 = true ∧ sOk p.2.2.1 = true
  tot : A.t = (A.bal.map (·.2)).sum + (A.hd.map (·.2.2.2)).sum
  ne : aget A.ow "" = none
theorem some_iff {α : Type} {l : List (Str × α)} {k : Str} : (aget l k).isSome = true ↔ k ∈ l.map (·.1) := by
  constructor
  · intro h
    obtain ⟨v, hv⟩ := Option.isSome_iff_exists.mp h
    exact aget_key hv
  · intro h
    obtain ⟨v, hv⟩ := aget_mem h
    rw [hv]
    rfl
theorem Inv.bal {A : St} (I : Inv A) : Bal A := fun n => by
  have h1 := some_iff (l := A.ow) (k := n)
  have h2 := some_iff (l := A.bal) (k := n)
  rw [I.ks] at h1
  exact Bool.eq_iff_iff.mpr (h1.trans h2.symm)
theorem Inv.fit {A : St} (I : Inv A) : Fit A := ⟨by have := I.f1; omega, by have := I.f2; omega, by have := I.f3; omega⟩
theorem Inv.hget {A : St} (I : Inv A) : ∀ p ∈ A.hd, aget A.hd p.1 = some p.2 := fun p hp => aget_of I.hnd hp
theorem Inv.hs {A : St} (I : Inv A) : ∀ p ∈ A.hd.map (·.2), sOk p.1 = true ∧ sOk p.2.1 = true := fun p hp => by
  obtain ⟨q, hq, rfl⟩ := List.mem_map.mp hp
  exact (I.hso q hq).2
def msg : Except Str St → Str
  | .ok _ => ""
  | .error e => e
theorem kvsH_keys (l : List (Str × (Str × Str × Int))) : (kvs eH l).map (fun kv => kD kv.1) = l.map fun p => D.str p.1 := by
  unfold kvs
  rw [List.map_map]
  rfl
theorem mclose_eq (A M : St) (G : Sto) (o : Op) (I : Inv M) (hn : sOk o.name = true) : ∃ E, F_law_close [.ref 7, o.d] (sto A M G) = .ok (.str (msg (aClose M o.client o.name))) (sto A M (G ++ E)) := by
  cases h : aget M.ow o.name with
  | none => exact ⟨[], by simp [F_law_close, fnM, d_law_close, insAt, vFld, vFldS, vIn, vNotIn, isIn, dctAt, dctW, lstAt, keyD, ofO, vIx, vAdd, vSub, vLt, vGt, vLe, vGe, vLen, lenD, vInt, vNot, vNeg, setAll, mthK, vSetI, vDelI, isDctW, isDct, vMake, Op.d, atI, ixN, kvs_get, h, aClose, msg]⟩
  | some c =>
    have g := I.bal.get h
    by_cases h1 : c = o.client
    · by_cases h2 : M.b o.name = 0
      · obtain ⟨x', E, L⟩ := mclose_loop A M o hn M.hd (fun p hp => ⟨I.hget p hp, (I.hso p hp).2⟩) none G
        rw [← kvsH_keys] at L
        refine ⟨E, ?_⟩
        by_cases h3 : (M.hd.map (·.2)).any (busyAt o.name) = true
        · rw [if_pos h3] at L
          simp [F_law_close, fnM, d_law_close, insAt, vFld, vFldS, vNotIn, dctAt, dctW, lstAt, keyD, vIx, vAdd, vSub, vLt, vGt, vLe, vGe, vLen, lenD, vInt, vNot, vNeg, setAll, mthK, vSetI, vDelI, isDctW, isDct, vMake, vNotIn, isIn, ofO, Op.d, atI, ixN, kvs_get, h, g, h1, h2, aClose, msg, lockK, lkAt, h3, unl, unlS] at L ⊢
          simp [L, unl, unlS]
        · rw [if_neg h3] at L
          simp [F_law_close, fnM, d_law_close, insAt, vFld, vFldS, vNotIn, dctAt, dctW, lstAt, keyD, vIx, vAdd, vSub, vLt, vGt, vLe, vGe, vLen, lenD, vInt, vNot, vNeg, setAll, mthK, vSetI, vDelI, isDctW, isDct, vMake, vNotIn, isIn, ofO, Op.d, atI, ixN, kvs_get, h, g, h1, h2, aClose, msg, lockK, lkAt, h3, unl, unlS] at L ⊢
          simp [L, unl, unlS]
      · exact ⟨[], by simp [F_law_close, fnM, d_law_close, insAt, vFld, vFldS, vIn, vNotIn, isIn, dctAt, dctW, lstAt, keyD, ofO, vIx, vAdd, vSub, vLt, vGt, vLe, vGe, vLen, lenD, vInt, vNot, vNeg, setAll, mthK, vSetI, vDelI, isDctW, isDct, vMake, Op.d, atI, ixN, kvs_get, h, g, h1, h2, aClose, msg]⟩
    · exact ⟨[], by simp [F_law_close, fnM, d_law_close, insAt, vFld, vFldS, vIn, vNotIn, isIn, dctAt, dctW, lstAt, keyD, ofO, vIx, vAdd, vSub, vLt, vGt, vLe, vGe, vLen, lenD, vInt, vNot, vNeg, setAll, mthK, vSetI, vDelI, isDctW, isDct, vMake, Op.d, atI, ixN, kvs_get, h, g, h1, aClose, msg]⟩
theorem hsum_eq (A M : St) (G : Sto) (I : Inv M) (x1 x2 x3 x4 x5 x6 x7 x8 x9 x10 x11 : Option D) :
    eLc (iKeysF (op2 vIx (eV 0) (eC (.int 2)))) (gN 9) [9] tYesF (op2 vIx (op2 vIx (op2 vIx (eV 0) (eC (.int 2))) (eV 9)) (eC (.int 2))) [some (.ref 7), x1, x2, x3, x4, x5, x6, x7, x8, x9, x10, x11] (stoL A M G) =
      .ok (.ref (G.length + 8)) (stoL A M (G ++ [.lst (M.hd.map fun p => .int p.2.2.2)])) := by
  have hl := I.f3
  have key := eLc_gen (fi := iKeysF (op2 vIx (eV 0) (eC (.int 2)))) (gf := gN 9) (own := [9]) (ft := tYesF) (fe := op2 vIx (op2 vIx (op2 vIx (eV 0) (eC (.int 2))) (eV 9)) (eC (.int 2))) (env := [some (.ref 7), x1, x2, x3, x4, x5, x6, x7, x8, x9, x10, x11])
    (S := stoL A M G) (S0 := stoL A M G) (ds := M.hd.map fun p => D.str p.1) (chk := fun _ => True) (fun d => match d with
      | .str k => match aget M.hd k with
        | some p => .int p.2.2
        | none => .non
      | _ => .non) (by simp [insAt, vFld, vFldS, vIn, vNotIn, isIn, dctAt, dctW, lstAt, keyD, ofO, vIx, vAdd, vSub, vLt, vGt, vLe, vGe, vLen, lenD, vInt, vNot, vNeg, setAll, mthK, vSetI, vDelI, isDctW, isDct, vMake, atI, ixN, lkAt, kvsH_keys]) (fun _ => True.intro) (fun d hd acc => by
        obtain ⟨p, hp, rfl⟩ := List.mem_map.mp hd
        have hg := I.hget p hp
        refine ⟨[some (.ref 7), x1, x2, x3, x4, x5, x6, x7, x8, some (.str p.1), x10, x11], by simp [wipeE], rfl, ?_⟩
        simp [insAt, vFld, vFldS, vIn, vNotIn, isIn, dctAt, dctW, lstAt, keyD, ofO, vIx, vAdd, vSub, vLt, vGt, vLe, vGe, vLen, lenD, vInt, vNot, vNeg, setAll, mthK, vSetI, vDelI, isDctW, isDct, vMake, atI, ixN, kvs_get, hg, eH]) (by simp; omega)
  rw [key]
  have e : (M.hd.map fun p => D.str p.1).map (fun d => match d with
      | .str k => match aget M.hd k with
        | some p => D.int p.2.2
        | none => .non
      | _ => .non) = M.hd.map fun p => .int p.2.2.2 := by
    rw [List.map_map]
    refine List.map_congr_left fun p hp => ?_
    have hg := I.hget p hp
    simp [hg]
  rw [e]
  simp
theorem intL_bal (l : List (Str × Int)) : intL ((kvs D.int l).map (·.2)) = some (l.map (·.2)) := by
  unfold kvs
  rw [List.map_map]
  exact intL_map' l
where
  intL_map' : ∀ l : List (Str × Int), intL (l.map ((fun x : Key × D => x.2) ∘ fun p : Str × Int => ((Sum.inr p.1 : Key), D.int p.2))) = some (l.map (·.2))
  | [] => rfl
  | p :: r => by
    rw [List.map_cons]
    show (intL _).map _ = _
    rw [intL_map' r]
    rfl
theorem intL_hd (l : List (Str × (Str × Str × Int))) : intL (l.map fun p => D.int p.2.2.2) = some (l.map (·.2.2.2)) := by
  induction l with
  | nil => rfl
  | cons p r ih =>
    rw [List.map_cons]
    show (intL _).map _ = _
    rw [ih]
    rfl
end Lw

set_option autoImplicit false
set_option maxRecDepth 100000
set_option maxHeartbeats 4000000
set_option linter.all false
namespace Lw
open PySem PySem.Spec L2 Mi
theorem sm1 : sOk "missing" = true := by decide +kernel
theorem sm2 : sOk "owner" = true := by decide +kernel
theorem sm3 : sOk "funds" = true := by decide +kernel
theorem paym_err {A : St} {c a : Int} {s d e : Str} (h : aPaym A c s d a = .error e) : e = "missing" ∨ e = "owner" ∨ e = "funds" := by
  unfold aPaym aFund at h
  split at h
  · split at h
    · cases h; exact .inl rfl
    · split at h
      · split at h
        · cases h; exact .inr (.inr rfl)
        · cases h
      · cases h; exact .inr (.inl rfl)
  · cases h; exact .inl rfl
theorem mreason_eq (A M : St) (G : Sto) (o : Op) (I : Inv M) (ho : OpOk o) : ∃ E, F_law_reason [.ref 7, o.d] (sto A M G) = .ok (.str (msg (aStep M o))) (sto A M (G ++ E)) := by
  have hv := ho.v
  have hB := I.bal
  by_cases h1 : o.verb = "create"
  · refine ⟨[], ?_⟩
    cases h : aget M.ow o.name with
    | some c => simp [F_law_reason, fnM, d_law_reason, insAt, vFld, vFldS, vIn, vNotIn, isIn, dctAt, dctW, lstAt, keyD, ofO, vIx, vAdd, vSub, vLt, vGt, vLe, vGe, vLen, lenD, vInt, vNot, vNeg, setAll, mthK, vSetI, vDelI, isDctW, isDct, vMake, Op.d, atI, ixN, kvs_get, h, h1, aStep, aCreate, msg, vEq_str, sk1]
    | none =>
      by_cases h2 : 100 ≤ (M.ow.length : Int)
      · simp [F_law_reason, fnM, d_law_reason, insAt, vFld, vFldS, vIn, vNotIn, isIn, dctAt, dctW, lstAt, keyD, ofO, vIx, vAdd, vSub, vLt, vGt, vLe, vGe, vLen, lenD, vInt, vNot, vNeg, setAll, mthK, vSetI, vDelI, isDctW, isDct, vMake, Op.d, atI, ixN, kvs_get, kvs_len, h, h1, h2, aStep, aCreate, msg, vEq_str, sk1]
      · simp [F_law_reason, fnM, d_law_reason, insAt, vFld, vFldS, vIn, vNotIn, isIn, dctAt, dctW, lstAt, keyD, ofO, vIx, vAdd, vSub, vLt, vGt, vLe, vGe, vLen, lenD, vInt, vNot, vNeg, setAll, mthK, vSetI, vDelI, isDctW, isDct, vMake, Op.d, atI, ixN, kvs_get, kvs_len, h, h1, h2, aStep, aCreate, msg, vEq_str, sk1]
  · by_cases h2 : o.verb = "close"
    · obtain ⟨E, q⟩ := mclose_eq A M G o I ho.n
      refine ⟨E, ?_⟩
      have q' := q
      simp only [Op.d, h2] at q'
      simp [F_law_reason, fnM, d_law_reason, insAt, vFld, vFldS, vIn, vNotIn, isIn, dctAt, dctW, lstAt, keyD, ofO, vIx, vAdd, vSub, vLt, vGt, vLe, vGe, vLen, lenD, vInt, vNot, vNeg, setAll, mthK, vSetI, vDelI, isDctW, isDct, vMake, Op.d, h2, aStep, vEq_str, sk1, sk2, q']
    · by_cases h3 : o.verb = "issue"
      · by_cases h4 : o.client = -1
        · cases h : aget M.ow o.name with
          | none =>
            have g : aget M.bal o.name = none := by
              have q := hB o.name
              rw [h] at q
              cases e : aget M.bal o.name with
              | none => rfl
              | some b => rw [e] at q; cases q
            exact ⟨[], by simp [F_law_reason, fnM, d_law_reason, insAt, vFld, vFldS, vIn, vNotIn, isIn, dctAt, dctW, lstAt, keyD, ofO, vIx, vAdd, vSub, vLt, vGt, vLe, vGe, vLen, lenD, vInt, vNot, vNeg, setAll, mthK, vSetI, vDelI, isDctW, isDct, vMake, Op.d, atI, ixN, kvs_get, h, g, h3, h4, aStep, aIssue, msg, vEq_str, sk1, sk2, sk3]⟩
          | some c =>
            have g := hB.get h
            have L := hsum_eq A M (G ++ [.lst ((kvs D.int M.bal).map (·.2))]) I (some (.tup [.str "issue", .int (-1), .str o.name, .str o.other, .int o.amount, .str o.key])) (some (.str "issue")) (some (.int (-1))) (some (.str o.name)) (some (.str o.other)) (some (.int o.amount)) (some (.str o.key)) none none none none
            refine ⟨[.lst ((kvs D.int M.bal).map (·.2)), .lst (M.hd.map fun p => .int p.2.2.2)], ?_⟩
            have ht := I.tot
            by_cases h5 : 1000000000000000 < M.t + o.amount
            · simp [-eLc_ap, F_law_reason, fnM, d_law_reason, insAt, vFld, vFldS, vIn, vNotIn, isIn, dctAt, dctW, lstAt, keyD, ofO, vIx, vAdd, vSub, vLt, vGt, vLe, vGe, vLen, lenD, vInt, vNot, vNeg, setAll, mthK, vSetI, vDelI, isDctW, isDct, vMake, Op.d, atI, ixN, kvs_get, h, g, h3, h4, aStep, aIssue, msg, vEq_str, sk1, sk2, sk3, vVals, vSum, intsOf, intL_bal, intL_hd, lockE, unlS, vPow] at L ⊢
              simp [-eLc_ap, L, intL_bal, intL_hd, ← ht, h5, unlS, insAt, vFld, vFldS, vIn, vNotIn, isIn, dctAt, dctW, lstAt, keyD, ofO, vIx, vAdd, vSub, vLt, vGt, vLe, vGe, vLen, lenD, vInt, vNot, vNeg, setAll, mthK, vSetI, vDelI, isDctW, isDct, vMake, vPow]
            · simp [-eLc_ap, F_law_reason, fnM, d_law_reason, insAt, vFld, vFldS, vIn, vNotIn, isIn, dctAt, dctW, lstAt, keyD, ofO, vIx, vAdd, vSub, vLt, vGt, vLe, vGe, vLen, lenD, vInt, vNot, vNeg, setAll, mthK, vSetI, vDelI, isDctW, isDct, vMake, Op.d, atI, ixN, kvs_get, h, g, h3, h4, aStep, aIssue, msg, vEq_str, sk1, sk2, sk3, vVals, vSum, intsOf, intL_bal, intL_hd, lockE, unlS, vPow] at L ⊢
              simp [-eLc_ap, L, intL_bal, intL_hd, ← ht, h5, unlS, insAt, vFld, vFldS, vIn, vNotIn, isIn, dctAt, dctW, lstAt, keyD, ofO, vIx, vAdd, vSub, vLt, vGt, vLe, vGe, vLen, lenD, vInt, vNot, vNeg, setAll, mthK, vSetI, vDelI, isDctW, isDct, vMake, vPow]
        · exact ⟨[], by simp [F_law_reason, fnM, d_law_reason, insAt, vFld, vFldS, vIn, vNotIn, isIn, dctAt, dctW, lstAt, keyD, ofO, vIx, vAdd, vSub, vLt, vGt, vLe, vGe, vLen, lenD, vInt, vNot, vNeg, setAll, mthK, vSetI, vDelI, isDctW, isDct, vMake, Op.d, h3, h4, aStep, aIssue, msg, vEq_str, sk1, sk2, sk3]⟩
      · refine ⟨[], ?_⟩
        rw [List.append_nil]
        by_cases h4 : o.verb = "burn"
        · cases h : aget M.ow o.name with
          | none => simp [F_law_reason, fnM, d_law_reason, insAt, vFld, vFldS, vIn, vNotIn, isIn, dctAt, dctW, lstAt, keyD, ofO, vIx, vAdd, vSub, vLt, vGt, vLe, vGe, vLen, lenD, vInt, vNot, vNeg, setAll, mthK, vSetI, vDelI, isDctW, isDct, vMake, Op.d, atI, ixN, kvs_get, h, h4, aStep, aBurn, aFund, msg, vEq_str, sk1, sk2, sk3, sk4]
          | some c =>
            have q := mfunds_eq A M G o.client o.amount o.name c hB h
            simp [F_law_reason, fnM, d_law_reason, insAt, vFld, vFldS, vIn, vNotIn, isIn, dctAt, dctW, lstAt, keyD, ofO, vIx, vAdd, vSub, vLt, vGt, vLe, vGe, vLen, lenD, vInt, vNot, vNeg, setAll, mthK, vSetI, vDelI, isDctW, isDct, vMake, Op.d, atI, ixN, kvs_get, h, h4, aStep, aBurn, msg, vEq_str, sk1, sk2, sk3, sk4, q]
            cases aFund M o.client o.name o.amount <;> rfl
        · have P := mpaym_eq A M G o hB
          by_cases h5 : o.verb = "pay"
          · cases hr : aPaym M o.client o.name o.other o.amount with
            | error e =>
              rw [hr] at P
              simp only [Op.d, h5] at P
              rcases paym_err hr with rfl | rfl | rfl <;> simp [F_law_reason, fnM, d_law_reason, insAt, vFld, vFldS, vIn, vNotIn, isIn, dctAt, dctW, lstAt, keyD, ofO, vIx, vAdd, vSub, vLt, vGt, vLe, vGe, vLen, lenD, vInt, vNot, vNeg, setAll, mthK, vSetI, vDelI, isDctW, isDct, vMake, Op.d, h5, hr, P, aStep, aPay, msg, vEq_str, vNe_str, sk1, sk2, sk3, sk4, sk5, sk6, sk7, sk8, sm1, sm2, sm3]
            | ok A' =>
              rw [hr] at P
              simp only [Op.d, h5] at P
              simp [F_law_reason, fnM, d_law_reason, insAt, vFld, vFldS, vIn, vNotIn, isIn, dctAt, dctW, lstAt, keyD, ofO, vIx, vAdd, vSub, vLt, vGt, vLe, vGe, vLen, lenD, vInt, vNot, vNeg, setAll, mthK, vSetI, vDelI, isDctW, isDct, vMake, Op.d, h5, hr, P, aStep, aPay, msg, vEq_str, vNe_str, sk1, sk2, sk3, sk4, sk5, sk6, sk7, sk8]
          · by_cases h6 : o.verb = "hold"
            · cases hr : aPaym M o.client o.name o.other o.amount with
              | error e =>
                rw [hr] at P
                simp only [Op.d, h6] at P
                rcases paym_err hr with rfl | rfl | rfl <;> simp [F_law_reason, fnM, d_law_reason, insAt, vFld, vFldS, vIn, vNotIn, isIn, dctAt, dctW, lstAt, keyD, ofO, vIx, vAdd, vSub, vLt, vGt, vLe, vGe, vLen, lenD, vInt, vNot, vNeg, setAll, mthK, vSetI, vDelI, isDctW, isDct, vMake, Op.d, h6, hr, P, aStep, aHold, msg, vEq_str, vNe_str, sk1, sk2, sk3, sk4, sk5, sk6, sk7, sk8, sm1, sm2, sm3]
              | ok A' =>
                obtain ⟨rfl, _, _⟩ := paym_ok hr
                rw [hr] at P
                simp only [Op.d, h6] at P
                cases h : aget A'.hd o.key with
                | some x => simp [F_law_reason, fnM, d_law_reason, insAt, vFld, vFldS, vIn, vNotIn, isIn, dctAt, dctW, lstAt, keyD, ofO, vIx, vAdd, vSub, vLt, vGt, vLe, vGe, vLen, lenD, vInt, vNot, vNeg, setAll, mthK, vSetI, vDelI, isDctW, isDct, vMake, Op.d, h6, hr, P, aStep, aHold, msg, vEq_str, vNe_str, sk1, sk2, sk3, sk4, sk5, sk6, sk7, sk8, atI, ixN, kvs_get, h]
                | none =>
                  by_cases h7 : 100 ≤ (A'.hd.length : Int)
                  · simp [F_law_reason, fnM, d_law_reason, insAt, vFld, vFldS, vIn, vNotIn, isIn, dctAt, dctW, lstAt, keyD, ofO, vIx, vAdd, vSub, vLt, vGt, vLe, vGe, vLen, lenD, vInt, vNot, vNeg, setAll, mthK, vSetI, vDelI, isDctW, isDct, vMake, Op.d, h6, hr, P, aStep, aHold, msg, vEq_str, vNe_str, sk1, sk2, sk3, sk4, sk5, sk6, sk7, sk8, atI, ixN, kvs_get, kvs_len, h, h7]
                  · simp [F_law_reason, fnM, d_law_reason, insAt, vFld, vFldS, vIn, vNotIn, isIn, dctAt, dctW, lstAt, keyD, ofO, vIx, vAdd, vSub, vLt, vGt, vLe, vGe, vLen, lenD, vInt, vNot, vNeg, setAll, mthK, vSetI, vDelI, isDctW, isDct, vMake, Op.d, h6, hr, P, aStep, aHold, msg, vEq_str, vNe_str, sk1, sk2, sk3, sk4, sk5, sk6, sk7, sk8, atI, ixN, kvs_get, kvs_len, h, h7]
            · cases h : aget M.hd o.key with
              | none =>
                by_cases h7 : o.verb = "settle"
                · simp [F_law_reason, fnM, d_law_reason, insAt, vFld, vFldS, vIn, vNotIn, isIn, dctAt, dctW, lstAt, keyD, ofO, vIx, vAdd, vSub, vLt, vGt, vLe, vGe, vLen, lenD, vInt, vNot, vNeg, setAll, mthK, vSetI, vDelI, isDctW, isDct, vMake, Op.d, atI, ixN, kvs_get, h, h7, aStep, aSettle, msg, vEq_str, sk1, sk2, sk3, sk4, sk5, sk6, sk7]
                · simp [F_law_reason, fnM, d_law_reason, insAt, vFld, vFldS, vIn, vNotIn, isIn, dctAt, dctW, lstAt, keyD, ofO, vIx, vAdd, vSub, vLt, vGt, vLe, vGe, vLen, lenD, vInt, vNot, vNeg, setAll, mthK, vSetI, vDelI, isDctW, isDct, vMake, Op.d, atI, ixN, kvs_get, h, hv, h1, h2, h3, h4, h5, h6, h7, aStep, aRelease, msg, vEq_str, sk1, sk2, sk3, sk4, sk5, sk6, sk7]
              | some p =>
                obtain ⟨s, d, a⟩ := p
                obtain ⟨g1, g2⟩ := I.hin _ _ _ _ h
                obtain ⟨o1, g1⟩ := Option.isSome_iff_exists.mp g1
                obtain ⟨o2, g2⟩ := Option.isSome_iff_exists.mp g2
                by_cases h7 : o.verb = "settle"
                · by_cases h8 : o1 = o.client
                  · simp [F_law_reason, fnM, d_law_reason, insAt, vFld, vFldS, vIn, vNotIn, isIn, dctAt, dctW, lstAt, keyD, ofO, vIx, vAdd, vSub, vLt, vGt, vLe, vGe, vLen, lenD, vInt, vNot, vNeg, setAll, mthK, vSetI, vDelI, isDctW, isDct, vMake, Op.d, atI, ixN, kvs_get, h, h7, h8, g1, eH, aStep, aSettle, msg, vEq_str, sk1, sk2, sk3, sk4, sk5, sk6, sk7]
                  · simp [F_law_reason, fnM, d_law_reason, insAt, vFld, vFldS, vIn, vNotIn, isIn, dctAt, dctW, lstAt, keyD, ofO, vIx, vAdd, vSub, vLt, vGt, vLe, vGe, vLen, lenD, vInt, vNot, vNeg, setAll, mthK, vSetI, vDelI, isDctW, isDct, vMake, Op.d, atI, ixN, kvs_get, h, h7, h8, g1, eH, aStep, aSettle, msg, vEq_str, sk1, sk2, sk3, sk4, sk5, sk6, sk7]
                · by_cases h8 : o2 = o.client
                  · simp [F_law_reason, fnM, d_law_reason, insAt, vFld, vFldS, vIn, vNotIn, isIn, dctAt, dctW, lstAt, keyD, ofO, vIx, vAdd, vSub, vLt, vGt, vLe, vGe, vLen, lenD, vInt, vNot, vNeg, setAll, mthK, vSetI, vDelI, isDctW, isDct, vMake, Op.d, atI, ixN, kvs_get, h, hv, h1, h2, h3, h4, h5, h6, h7, h8, g2, eH, aStep, aRelease, msg, vEq_str, sk1, sk2, sk3, sk4, sk5, sk6, sk7]
                  · simp [F_law_reason, fnM, d_law_reason, insAt, vFld, vFldS, vIn, vNotIn, isIn, dctAt, dctW, lstAt, keyD, ofO, vIx, vAdd, vSub, vLt, vGt, vLe, vGe, vLen, lenD, vInt, vNot, vNeg, setAll, mthK, vSetI, vDelI, isDctW, isDct, vMake, Op.d, atI, ixN, kvs_get, h, hv, h1, h2, h3, h4, h5, h6, h7, h8, g2, eH, aStep, aRelease, msg, vEq_str, sk1, sk2, sk3, sk4, sk5, sk6, sk7]
theorem mapply_eq (A M M' : St) (G : Sto) (o : Op) (I : Inv M) (ho : OpOk o) (hr : aStep M o = .ok M') : F_law_apply [.ref 7, o.d] (sto A M G) = .ok .non (sto A M' G) := by
  have hv := ho.v
  have hB := I.bal
  have f1 := I.fit.o
  have f2 := I.fit.b
  have f3 := I.fit.h
  unfold aStep at hr
  by_cases h1 : o.verb = "create"
  · simp only [h1, if_true] at hr
    unfold aCreate at hr
    split at hr
    · cases hr
    · split at hr
      · cases hr
      · cases hr
        simp [F_law_apply, fnM, d_law_apply, insAt, vFld, vFldS, vIn, vNotIn, isIn, dctAt, dctW, lstAt, keyD, ofO, vIx, vAdd, vSub, vLt, vGt, vLe, vGe, vLen, lenD, vInt, vNot, vNeg, setAll, mthK, vSetI, vDelI, isDctW, isDct, vMake, Op.d, atI, ixN, kvs_get, kvs_len, kvs_putI, h1, vEq_str, sk1, f1, f2]
  · simp only [h1, if_false] at hr
    by_cases h2 : o.verb = "close"
    · simp only [h2, if_true] at hr
      unfold aClose at hr
      split at hr
      · cases hr
      · rename_i c h
        have g := hB.get h
        split at hr
        · split at hr
          · split at hr
            · cases hr
            · cases hr
              simp [F_law_apply, fnM, d_law_apply, insAt, vFld, vFldS, vIn, vNotIn, isIn, dctAt, dctW, lstAt, keyD, ofO, vIx, vAdd, vSub, vLt, vGt, vLe, vGe, vLen, lenD, vInt, vNot, vNeg, setAll, mthK, vSetI, vDelI, isDctW, isDct, vMake, Op.d, atI, ixN, kvs_get, kvs_del, h, g, h2, vEq_str, sk1, sk2, dpopK, vDPop1]
          · cases hr
        · cases hr
    · simp only [h2, if_false] at hr
      by_cases h3 : o.verb = "issue"
      · simp only [h3, if_true] at hr
        unfold aIssue at hr
        split at hr
        · split at hr
          · cases hr
          · rename_i b h
            split at hr
            · cases hr
            · cases hr
              simp [F_law_apply, fnM, d_law_apply, insAt, vFld, vFldS, vIn, vNotIn, isIn, dctAt, dctW, lstAt, keyD, ofO, vIx, vAdd, vSub, vLt, vGt, vLe, vGe, vLen, lenD, vInt, vNot, vNeg, setAll, mthK, vSetI, vDelI, isDctW, isDct, vMake, Op.d, atI, ixN, kvs_get, kvs_len, kvs_putI, h, h3, vEq_str, sk1, sk2, sk3, f2]
        · cases hr
      · simp only [h3, if_false] at hr
        by_cases h4 : o.verb = "burn"
        · simp only [h4, if_true] at hr
          unfold aBurn at hr
          split at hr
          · cases hr
          · rename_i A' hf
            obtain ⟨c, e1, e2, e3, e4⟩ := fund_ok hf
            have g := hB.get e1
            cases hr
            simp [F_law_apply, fnM, d_law_apply, insAt, vFld, vFldS, vIn, vNotIn, isIn, dctAt, dctW, lstAt, keyD, ofO, vIx, vAdd, vSub, vLt, vGt, vLe, vGe, vLen, lenD, vInt, vNot, vNeg, setAll, mthK, vSetI, vDelI, isDctW, isDct, vMake, Op.d, atI, ixN, kvs_get, kvs_len, kvs_putI, g, h4, vEq_str, sk1, sk2, sk3, sk4, f2]
        · simp only [h4, if_false] at hr
          by_cases h5 : o.verb = "pay"
          · simp only [h5, if_true] at hr
            unfold aPay at hr
            split at hr
            · cases hr
            · rename_i A' hf
              obtain ⟨_, ⟨c, e1⟩, ⟨c2, e2⟩⟩ := paym_ok hf
              have g1 := hB.get e1
              have g2 := hB.get e2
              have g3 : ∀ v, (aput M.bal o.name v).length = M.bal.length := fun v => aput_len g1
              obtain ⟨y, g4⟩ : ∃ y, aget (aput M.bal o.name (M.b o.name - o.amount)) o.other = some y := by
                rw [aget_aput g1, g2]
                split <;> exact ⟨_, rfl⟩
              cases hr
              simp [F_law_apply, fnM, d_law_apply, insAt, vFld, vFldS, vIn, vNotIn, isIn, dctAt, dctW, lstAt, keyD, ofO, vIx, vAdd, vSub, vLt, vGt, vLe, vGe, vLen, lenD, vInt, vNot, vNeg, setAll, mthK, vSetI, vDelI, isDctW, isDct, vMake, Op.d, atI, ixN, kvs_get, kvs_len, kvs_putI, g1, g3, g4, h5, vEq_str, sk1, sk2, sk3, sk4, sk5, f2, addB]
          · simp only [h5, if_false] at hr
            by_cases h6 : o.verb = "hold"
            · simp only [h6, if_true] at hr
              unfold aHold at hr
              split at hr
              · cases hr
              · rename_i A' hf
                obtain ⟨_, ⟨c, e1⟩, ⟨c2, e2⟩⟩ := paym_ok hf
                have g1 := hB.get e1
                split at hr
                · cases hr
                · split at hr
                  · cases hr
                  · cases hr
                    simp [F_law_apply, fnM, d_law_apply, insAt, vFld, vFldS, vIn, vNotIn, isIn, dctAt, dctW, lstAt, keyD, ofO, vIx, vAdd, vSub, vLt, vGt, vLe, vGe, vLen, lenD, vInt, vNot, vNeg, setAll, mthK, vSetI, vDelI, isDctW, isDct, vMake, Op.d, atI, ixN, kvs_get, kvs_len, kvs_putI, kvs_putH, g1, h6, vEq_str, sk1, sk2, sk3, sk4, sk5, sk6, f2, f3]
            · simp only [h6, if_false] at hr
              by_cases h7 : o.verb = "settle"
              · simp only [h7, if_true] at hr
                unfold aSettle at hr
                split at hr
                · cases hr
                · rename_i s d a h
                  split at hr
                  · cases hr
                    obtain ⟨g1, g2⟩ := I.hin _ _ _ _ h
                    obtain ⟨o2, g2⟩ := Option.isSome_iff_exists.mp g2
                    have b2 := hB.get g2
                    simp [F_law_apply, fnM, d_law_apply, insAt, vFld, vFldS, vIn, vNotIn, isIn, dctAt, dctW, lstAt, keyD, ofO, vIx, vAdd, vSub, vLt, vGt, vLe, vGe, vLen, lenD, vInt, vNot, vNeg, setAll, mthK, vSetI, vDelI, isDctW, isDct, vMake, Op.d, atI, ixN, kvs_get, kvs_len, kvs_putI, kvs_del, b2, h, h7, eH, vEq_str, sk1, sk2, sk3, sk4, sk5, sk6, sk7, f2, addB, dpopK, vDPop1]
                  · cases hr
              · simp only [h7, if_false] at hr
                unfold aRelease at hr
                split at hr
                · cases hr
                · rename_i s d a h
                  split at hr
                  · cases hr
                    obtain ⟨g1, g2⟩ := I.hin _ _ _ _ h
                    obtain ⟨o1, g1⟩ := Option.isSome_iff_exists.mp g1
                    have b1 := hB.get g1
                    simp [F_law_apply, fnM, d_law_apply, insAt, vFld, vFldS, vIn, vNotIn, isIn, dctAt, dctW, lstAt, keyD, ofO, vIx, vAdd, vSub, vLt, vGt, vLe, vGe, vLen, lenD, vInt, vNot, vNeg, setAll, mthK, vSetI, vDelI, isDctW, isDct, vMake, Op.d, atI, ixN, kvs_get, kvs_len, kvs_putI, kvs_del, b1, h, hv, h1, h2, h3, h4, h5, h6, h7, eH, vEq_str, sk1, sk2, sk3, sk4, sk5, sk6, sk7, f2, addB, dpopK, vDPop1]
                  · cases hr
end Lw

set_option autoImplicit false
set_option maxRecDepth 100000
set_option maxHeartbeats 4000000
set_option linter.all false
namespace Lw
open PySem PySem.Spec L2 Mi
/-! ### the invariant stays -/
section
variable {α : Type} (f : α → Int)
theorem sum_amap {l : List (Str × α)} {k : Str} {v w : α} (nd : (l.map (·.1)).Nodup) (h : aget l k = some v) : ((amap l k w).map fun p => f p.2).sum = (l.map fun p => f p.2).sum - f v + f w := by
  induction l with
  | nil => cases h
  | cons p r ih =>
    rw [List.map_cons, List.nodup_cons] at nd
    unfold aget at h
    by_cases hp : p.1 = k
    · rw [if_pos hp] at h
      cases h
      have e : amap r k w = r := by
        unfold amap
        have : ∀ q ∈ r, (if q.1 = k then (q.1, w) else q) = q := fun q hq => by
          rw [if_neg]
          rintro rfl
          exact nd.1 (by rw [hp]; exact List.mem_map.mpr ⟨q, hq, rfl⟩)
        rw [List.map_congr_left this]
        simp
      have e2 : amap (p :: r) k w = (p.1, w) :: r := by
        conv => rhs; rw [← e]
        unfold amap
        rw [List.map_cons, if_pos hp]
      rw [e2]
      simp
      omega
    · rw [if_neg hp] at h
      have q := ih nd.2 h
      have e2 : amap (p :: r) k w = p :: amap r k w := by
        unfold amap
        rw [List.map_cons, if_neg hp]
      rw [e2, List.map_cons, List.map_cons, List.sum_cons, List.sum_cons, q]
      omega
theorem sum_adel {l : List (Str × α)} {k : Str} {v : α} (nd : (l.map (·.1)).Nodup) (h : aget l k = some v) : ((adel l k).map fun p => f p.2).sum = (l.map fun p => f p.2).sum - f v := by
  induction l with
  | nil => cases h
  | cons p r ih =>
    rw [List.map_cons, List.nodup_cons] at nd
    unfold aget at h
    by_cases hp : p.1 = k
    · rw [if_pos hp] at h
      cases h
      have e : adel (p :: r) k = r := by
        unfold adel
        rw [List.filter_cons, if_neg (by simp [hp]), List.filter_eq_self]
        intro q hq
        have : q.1 ≠ k := by
          rintro rfl
          exact nd.1 (by rw [hp]; exact List.mem_map.mpr ⟨q, hq, rfl⟩)
        simp [this]
      rw [e]
      simp
      omega
    · rw [if_neg hp] at h
      have q := ih nd.2 h
      have e2 : adel (p :: r) k = p :: adel r k := by
        unfold adel
        rw [List.filter_cons, if_pos (by simp [hp])]
      rw [e2, List.map_cons, List.map_cons, List.sum_cons, List.sum_cons, q]
      omega
end
theorem aput_keys {α : Type} {l : List (Str × α)} {k : Str} {v w : α} (h : aget l k = some w) : (aput l k v).map (·.1) = l.map (·.1) := by
  rw [aput_old h, amap_keys]
theorem sum_aput {l : List (Str × Int)} {k : Str} {v w : Int} (nd : (l.map (·.1)).Nodup) (h : aget l k = some v) : ((aput l k w).map (·.2)).sum = (l.map (·.2)).sum - v + w := by
  rw [aput_old h]
  exact sum_amap (fun x => x) nd h
theorem sum_addB {l : List (Str × Int)} {k : Str} {v a : Int} (nd : (l.map (·.1)).Nodup) (h : aget l k = some v) : ((addB l k a).map (·.2)).sum = (l.map (·.2)).sum + a := by
  unfold addB
  rw [sum_aput nd h, h]
  simp
  omega
theorem Inv.bnd {A : St} (I : Inv A) : (A.bal.map (·.1)).Nodup := by rw [← I.ks]; exact I.nd
/-- only balances and total change -/
theorem Inv.setB {A : St} (I : Inv A) {bal' : List (Str × Int)} {t' : Int} (hk : bal'.map (·.1) = A.bal.map (·.1)) (ht : t' = (bal'.map (·.2)).sum + (A.hd.map (·.2.2.2)).sum) : Inv { A with bal := bal', t := t' } := by
  have hl : bal'.length = A.bal.length := by
    have := congrArg List.length hk
    simpa using this
  exact ⟨I.f1, by show bal'.length ≤ 100; rw [hl]; exact I.f2, I.f3, I.nd, by show A.ow.map (·.1) = bal'.map (·.1); rw [hk]; exact I.ks, I.hnd, I.hin, I.oso, I.hso, ht, I.ne⟩
theorem step_inv {A A' : St} {o : Op} (I : Inv A) (ho : OpOk o) (hne : o.name ≠ "") (hr : aStep A o = .ok A') : Inv A' := by
  have hB := I.bal
  unfold aStep at hr
  split at hr
  · unfold aCreate at hr
    split at hr
    · cases hr
    · rename_i h1
      split at hr
      · cases hr
      · rename_i h2
        cases hr
        have e1 : aget A.ow o.name = none := by
          cases e : aget A.ow o.name with
          | none => rfl
          | some v => rw [e] at h1; exact absurd rfl h1
        have e2 : aget A.bal o.name = none := by
          have q := hB o.name
          rw [e1] at q
          cases e : aget A.bal o.name with
          | none => rfl
          | some v => rw [e] at q; cases q
        have hlen : A.ow.length = A.bal.length := by
          have := congrArg List.length I.ks
          simpa using this
        rw [aput_new e1, aput_new e2]
        refine ⟨by simp; omega, by simp; omega, I.f3, ?_, ?_, I.hnd, ?_, ?_, I.hso, ?_, ?_⟩
        · show ((A.ow ++ [(o.name, o.client)]).map (·.1)).Nodup
          rw [List.map_append, List.nodup_append]
          refine ⟨I.nd, by simp, fun a ha b hb => ?_⟩
          have hb' : b = o.name := by simpa using hb
          subst hb'
          rintro rfl
          exact aget_none.mp e1 ha
        · show (A.ow ++ _).map (·.1) = (A.bal ++ _).map (·.1)
          rw [List.map_append, List.map_append, I.ks]
          rfl
        · intro k s d a hk
          obtain ⟨g1, g2⟩ := I.hin k s d a hk
          show (aget (A.ow ++ _) s).isSome = true ∧ (aget (A.ow ++ _) d).isSome = true
          rw [aget_app, aget_app, Option.isSome_or, Option.isSome_or, g1, g2]
          exact ⟨rfl, rfl⟩
        · intro k hk
          have hk' : k ∈ (A.ow ++ [(o.name, o.client)]).map (·.1) := hk
          rw [List.map_append, List.mem_append] at hk'
          rcases hk' with h | h
          · exact I.oso k h
          · have : k = o.name := by simpa using h
            rw [this]
            exact ho.n
        · show A.t = ((A.bal ++ _).map (·.2)).sum + _
          rw [I.tot]
          simp
        · show aget (A.ow ++ _) _ = none
          rw [aget_app, I.ne]
          simp [show ¬ ("" : Str) = o.name from fun z => hne z.symm]
  · split at hr
    · unfold aClose at hr
      split at hr
      · cases hr
      · rename_i c h
        have g := hB.get h
        split at hr
        · split at hr
          · rename_i h0
            split at hr
            · cases hr
            · rename_i hbusy
              cases hr
              have hle : ∀ (l : List (Str × Int)), (adel l o.name).length ≤ l.length := fun l => List.length_filter_le _ _
              refine ⟨Nat.le_trans (hle _) I.f1, Nat.le_trans (hle _) I.f2, I.f3, ?_, ?_, I.hnd, ?_, ?_, I.hso, ?_, ?_⟩
              · show ((adel A.ow o.name).map (·.1)).Nodup
                rw [adel_keys]
                exact I.nd.filter _
              · show (adel A.ow o.name).map (·.1) = (adel A.bal o.name).map (·.1)
                rw [adel_keys, adel_keys, I.ks]
              · intro k s d a hk
                obtain ⟨g1, g2⟩ := I.hin k s d a hk
                have hm : (s, d, a) ∈ A.hd.map (·.2) := List.mem_map.mpr ⟨_, aget_some hk, rfl⟩
                have nb : busyAt o.name (s, d, a) = false := by
                  cases e : busyAt o.name (s, d, a) with
                  | false => rfl
                  | true => exact absurd (List.any_eq_true.mpr ⟨_, hm, e⟩) hbusy
                unfold busyAt at nb
                simp at nb
                show (aget (adel A.ow _) s).isSome = true ∧ (aget (adel A.ow _) d).isSome = true
                rw [aget_adel, aget_adel, if_neg (fun z => nb.1 z.symm), if_neg (fun z => nb.2 z.symm)]
                exact ⟨g1, g2⟩
              · intro k hk
                have hk' : k ∈ (adel A.ow o.name).map (·.1) := hk
                rw [adel_keys] at hk'
                exact I.oso k (List.mem_filter.mp hk').1
              · show A.t = ((adel A.bal o.name).map (·.2)).sum + _
                rw [I.tot, show ((adel A.bal o.name).map (·.2)).sum = (A.bal.map (·.2)).sum - A.b o.name from sum_adel (fun x => x) I.bnd g, h0]
                simp
              · show aget (adel A.ow o.name) _ = none
                rw [aget_adel, I.ne]
                split <;> rfl
          · cases hr
        · cases hr
    · split at hr
      · unfold aIssue at hr
        split at hr
        · split at hr
          · cases hr
          · rename_i b h
            split at hr
            · cases hr
            · cases hr
              exact I.setB (aput_keys h) (by rw [sum_aput I.bnd h, I.tot]; omega)
        · cases hr
      · split at hr
        · unfold aBurn at hr
          split at hr
          · cases hr
          · rename_i A' hf
            obtain ⟨c, e1, e2, e3, e4⟩ := fund_ok hf
            have g := hB.get e1
            cases hr
            exact I.setB (aput_keys g) (by rw [sum_aput I.bnd g, I.tot]; omega)
        · split at hr
          · unfold aPay at hr
            split at hr
            · cases hr
            · rename_i A' hf
              obtain ⟨_, ⟨c, e1⟩, ⟨c2, e2⟩⟩ := paym_ok hf
              have g1 := hB.get e1
              have g2 := hB.get e2
              obtain ⟨y, g4⟩ : ∃ y, aget (aput A.bal o.name (A.b o.name - o.amount)) o.other = some y := by
                rw [aget_aput g1, g2]
                split <;> exact ⟨_, rfl⟩
              cases hr
              have nd2 : ((aput A.bal o.name (A.b o.name - o.amount)).map (·.1)).Nodup := by rw [aput_keys g1]; exact I.bnd
              refine I.setB ?_ ?_
              · unfold addB
                rw [aput_keys g4, aput_keys g1]
              · rw [sum_addB nd2 g4, sum_aput I.bnd g1, I.tot]
                omega
          · split at hr
            · unfold aHold at hr
              split at hr
              · cases hr
              · rename_i A' hf
                obtain ⟨_, ⟨c, e1⟩, ⟨c2, e2⟩⟩ := paym_ok hf
                have g1 := hB.get e1
                split at hr
                · cases hr
                · rename_i h1
                  split at hr
                  · cases hr
                  · rename_i h2
                    cases hr
                    have e3 : aget A.hd o.key = none := by
                      cases e : aget A.hd o.key with
                      | none => rfl
                      | some v => rw [e] at h1; exact absurd rfl h1
                    rw [aput_new e3]
                    have g3 : (aput A.bal o.name (A.b o.name - o.amount)).length = A.bal.length := aput_len g1
                    refine ⟨I.f1, ?_, by simp; omega, I.nd, ?_, ?_, ?_, I.oso, ?_, ?_, I.ne⟩
                    · show (aput A.bal o.name _).length ≤ 100
                      rw [g3]
                      exact I.f2
                    · show A.ow.map (·.1) = (aput A.bal o.name _).map (·.1)
                      rw [aput_keys g1]
                      exact I.ks
                    · show ((A.hd ++ _).map (·.1)).Nodup
                      rw [List.map_append, List.nodup_append]
                      refine ⟨I.hnd, by simp, fun a ha b hb => ?_⟩
                      have hb' : b = o.key := by simpa using hb
                      subst hb'
                      rintro rfl
                      exact aget_none.mp e3 ha
                    · intro k s d a hk
                      have hk' : aget (A.hd ++ [(o.key, (o.name, o.other, o.amount))]) k = some (s, d, a) := hk
                      rw [aget_app] at hk'
                      cases e : aget A.hd k with
                      | some p =>
                        rw [e] at hk'
                        cases hk'
                        exact I.hin k s d a e
                      | none =>
                        rw [e] at hk'
                        by_cases hkk : k = o.key
                        · rw [if_pos hkk] at hk'
                          cases hk'
                          show (aget A.ow o.name).isSome = true ∧ (aget A.ow o.other).isSome = true
                          rw [e1, e2]
                          exact ⟨rfl, rfl⟩
                        · rw [if_neg hkk] at hk'
                          cases hk'
                    · intro p hp
                      rcases List.mem_append.mp hp with h | h
                      · exact I.hso p h
                      · have : p = (o.key, (o.name, o.other, o.amount)) := by simpa using h
                        subst this
                        exact ⟨ho.k, ho.n, ho.m⟩
                    · show A.t = ((aput A.bal o.name _).map (·.2)).sum + ((A.hd ++ _).map (·.2.2.2)).sum
                      rw [sum_aput I.bnd g1, I.tot]
                      simp
                      omega
            · have fin : ∀ (k s d : Str) (a : Int) (x : Str), aget A.hd k = some (s, d, a) → (aget A.ow x).isSome = true → Inv { A with hd := adel A.hd k, bal := addB A.bal x a } := fun k s d a x h hx => by
                obtain ⟨o2, g2⟩ := Option.isSome_iff_exists.mp hx
                have b2 := hB.get g2
                have hle : (adel A.hd k).length ≤ A.hd.length := List.length_filter_le _ _
                have hk2 : (addB A.bal x a).map (·.1) = A.bal.map (·.1) := by
                  unfold addB
                  exact aput_keys b2
                have hl2 : (addB A.bal x a).length = A.bal.length := by
                  have := congrArg List.length hk2
                  simpa using this
                refine ⟨I.f1, by show (addB A.bal x a).length ≤ 100; rw [hl2]; exact I.f2, Nat.le_trans hle I.f3, I.nd, by show A.ow.map (·.1) = (addB A.bal x a).map (·.1); rw [hk2]; exact I.ks, ?_, ?_, I.oso, ?_, ?_, I.ne⟩
                · show ((adel A.hd k).map (·.1)).Nodup
                  rw [adel_keys]
                  exact I.hnd.filter _
                · intro k' s' d' a' hk
                  have hk' : aget (adel A.hd k) k' = some (s', d', a') := hk
                  rw [aget_adel] at hk'
                  split at hk'
                  · cases hk'
                  · exact I.hin k' s' d' a' hk'
                · intro p hp
                  exact I.hso p (List.mem_filter.mp hp).1
                · show A.t = ((addB A.bal x a).map (·.2)).sum + ((adel A.hd k).map (·.2.2.2)).sum
                  rw [sum_addB I.bnd b2, show ((adel A.hd k).map (·.2.2.2)).sum = (A.hd.map (·.2.2.2)).sum - a from sum_adel (fun p : Str × Str × Int => p.2.2) I.hnd h, I.tot]
                  omega
              split at hr
              · unfold aSettle at hr
                split at hr
                · cases hr
                · rename_i s d a h
                  split at hr
                  · cases hr
                    exact fin _ s d a d h (I.hin _ _ _ _ h).2
                  · cases hr
              · unfold aRelease at hr
                split at hr
                · cases hr
                · rename_i s d a h
                  split at hr
                  · cases hr
                    exact fin _ s d a s h (I.hin _ _ _ _ h).1
                  · cases hr
end Lw

set_option autoImplicit false
set_option maxRecDepth 100000
set_option maxHeartbeats 4000000
set_option linter.all false
namespace Lw
open PySem PySem.Spec L2 Mi
/-! ### what is drawn -/
theorem sOk_app {a b : Str} (ha : sOk a = true) (hb : sOk b = true) : sOk (a ++ b) = true := by
  unfold sOk at *
  show (a.cps ++ b.cps).all _ = true
  rw [Array.all_append, ha, hb]
  rfl
theorem len_app (a b : Str) : (a ++ b).length = a.length + b.length := by
  show (a.cps ++ b.cps).size = a.cps.size + b.cps.size
  rw [Array.size_append]
theorem atI_str (x : Str) (hx : sOk x = true) (i : Int) (h0 : 0 ≤ i) (h1 : i < x.length) (h2 : x.length ≤ 1000) : ∃ c, atI x.cps.toList i = some c ∧ sOk ⟨#[c]⟩ = true := by
  have hl : x.cps.toList.length = x.length := by simp [Str.length]
  have hi : i.toNat < x.cps.toList.length := by rw [hl]; omega
  have e : ixN x.cps.toList.length i = some i.toNat := by
    unfold ixN
    rw [hl]
    have : ¬ i < 0 := by omega
    simp [this, h0, h1]
    try omega
  refine ⟨x.cps.toList[i.toNat], ?_, ?_⟩
  · unfold atI
    rw [e]
    exact List.getElem?_eq_getElem hi
  · unfold sOk at hx ⊢
    have := Array.all_eq_true'.mp hx (x.cps.toList[i.toNat]) (by simp)
    simpa using this
theorem rich_eq (c k : Int) : ∃ r, ∀ S, F_law_rich [.int c, .int k] S = .ok (.int r) S := by
  by_cases h : 1000000000000000000 ≤ c
  · exact ⟨c, fun S => by simp [F_law_rich, fnM, d_law_rich, insAt, vFld, vFldS, vIn, vNotIn, isIn, dctAt, dctW, lstAt, keyD, ofO, vIx, vAdd, vSub, vLt, vGt, vLe, vGe, vLen, lenD, vInt, vNot, vNeg, setAll, mthK, vSetI, vDelI, isDctW, isDct, vMake, vPow, h]⟩
  · refine ⟨_, fun S => by simp [F_law_rich, fnM, d_law_rich, insAt, vFld, vFldS, vIn, vNotIn, isIn, dctAt, dctW, lstAt, keyD, ofO, vIx, vAdd, vSub, vLt, vGt, vLe, vGe, vLen, lenD, vInt, vNot, vNeg, setAll, mthK, vSetI, vDelI, isDctW, isDct, vMake, vPow, h, vMul, vMod]; rfl⟩
theorem amount_eq (c : Int) : ∃ r, ∀ S, F_law_amount [.int c] S = .ok (.int r) S := by
  by_cases h : c % 4 < 3
  · refine ⟨_, fun S => by simp [F_law_amount, fnM, d_law_amount, insAt, vFld, vFldS, vIn, vNotIn, isIn, dctAt, dctW, lstAt, keyD, ofO, vIx, vAdd, vSub, vLt, vGt, vLe, vGe, vLen, lenD, vInt, vNot, vNeg, setAll, mthK, vSetI, vDelI, isDctW, isDct, vMake, vPow, vMod, vFdiv, h]; rfl⟩
  · by_cases h2 : c / 4 % 8 = 0
    · refine ⟨_, fun S => by simp [F_law_amount, fnM, d_law_amount, insAt, vFld, vFldS, vIn, vNotIn, isIn, dctAt, dctW, lstAt, keyD, ofO, vIx, vAdd, vSub, vLt, vGt, vLe, vGe, vLen, lenD, vInt, vNot, vNeg, setAll, mthK, vSetI, vDelI, isDctW, isDct, vMake, vPow, vMod, vFdiv, h, h2]; rfl⟩
    · refine ⟨_, fun S => by simp [F_law_amount, fnM, d_law_amount, insAt, vFld, vFldS, vIn, vNotIn, isIn, dctAt, dctW, lstAt, keyD, ofO, vIx, vAdd, vSub, vLt, vGt, vLe, vGe, vLen, lenD, vInt, vNot, vNeg, setAll, mthK, vSetI, vDelI, isDctW, isDct, vMake, vPow, vMod, vFdiv, h, h2]; rfl⟩
noncomputable abbrev wordBody : Fs := (sSeq (sSet 4 (op2 vAdd (eV 4) (op2 vIx (eV 1) (op2 vMod (opS vInt (aC (op2 vAdd (eV 5) (op2 vMul (eV 6) (eV 3))) aN)) (opS vLen (aC (eV 1) aN))))))
  (sSet 5 (op2 vFdiv (eV 5) (opS vLen (aC (eV 1) aN)))))
theorem t4 (chars : Str) (rm : Int) (c : Nat) (k1 : chars.length ≤ 16777216) (e1 : atI chars.cps.toList rm = some c) (S : Sto) : vIx (.str chars) (.int rm) S = .ok (.str ⟨#[c]⟩) S := by
  unfold vIx
  simp only [if_pos k1, e1]
theorem t5 (w cc : Str) (k2 : w.length + cc.length ≤ 16777216) (S : Sto) : vAdd (.str w) (.str cc) S = .ok (.str (w ++ cc)) S := by
  unfold vAdd
  simp only [if_pos k2]
theorem t6 (chars : Str) (k1 : chars.length ≤ 16777216) (S : Sto) : vLen [.str chars] S = .ok (.int chars.length) S := by
    unfold vLen lenD
    simp only [if_pos k1]
theorem t7 (r : Int) (S : Sto) : vAdd (.int r) (.int 0) S = .ok (.int r) S := by
    show Ou.ok (D.int (r + 0)) S = _
    rw [Int.add_zero]
theorem t3 (i : Nat) (S : Sto) : vMul (.int i) (.int 0) S = .ok (.int 0) S := by rw [vMul_ok _ _ S (.inr (by decide)), Int.mul_zero]
theorem t8 (j : Int) (S : Sto) : vInt [.int j] S = .ok (.int j) S := rfl
theorem word_run (chars w cc : Str) (cl rm rd r ii size seed : Int) (x : Option D) (d1 : ∀ S, vFdiv (.int r) (.int cl) S = .ok (.int rd) S) (d2 : ∀ S, vMod (.int r) (.int cl) S = .ok (.int rm) S) (d3 : ∀ S, vMul (.int ii) (.int 0) S = .ok (.int 0) S)
    (d4 : ∀ S, vIx (.str chars) (.int rm) S = .ok (.str cc) S) (d5 : ∀ S, vAdd (.str w) (.str cc) S = .ok (.str (w ++ cc)) S) (d6 : ∀ S, vLen [.str chars] S = .ok (.int cl) S) (S : Sto) :
    (gN 6 (.int ii) [some (.int size), some (.str chars), some (.int seed), some (.int 0), some (.str w), some (.int r), x] S).seq wordBody = .nx [some (.int size), some (.str chars), some (.int seed), some (.int 0), some (.str (w ++ cc)), some (.int rd), some (.int ii)] S := by
  simp only [gN_ap, Os.seq_nx, sSeq_ap, sSet_ap, op2_ap, eV_ap, opS_ap, aC_ap, aN_ap, List.set_cons_succ, List.set_cons_zero, List.getElem?_cons_succ, List.getElem?_cons_zero, eVK_s, Ou.bind_ok, Ou.thn_ok, d1, d2, d3, d4, d5, d6, t7, t8]
theorem word_step (chars : Str) (hc : sOk chars = true) (h0 : 0 < chars.length) (h1 : chars.length ≤ 1000) (size seed : Int) (i : Nat) (w : Str) (r : Int) (x : Option D) (hw : sOk w = true) (hl : w.length ≤ 1000) : ∃ w2 : Str, sOk w2 = true ∧ w2.length = w.length + 1 ∧
    ∀ S, (gN 6 (.int (i : Nat)) [some (.int size), some (.str chars), some (.int seed), some (.int 0), some (.str w), some (.int r), x] S).seq wordBody = .nx [some (.int size), some (.str chars), some (.int seed), some (.int 0), some (.str w2), some (.int (r / chars.length)), some (.int i)] S := by
  have hp : (0 : Int) < chars.length := by omega
  obtain ⟨c, e1, e2⟩ := atI_str chars hc (r % chars.length) (Int.emod_nonneg _ (by omega)) (Int.emod_lt_of_pos _ hp) h1
  have k1 : chars.length ≤ 16777216 := by omega
  have k4 : (chars.length : Int) < 1073741824 := by omega
  have q : ∃ cc : Str, sOk cc = true ∧ cc.length = 1 ∧ ∀ S, vIx (.str chars) (.int (r % chars.length)) S = .ok (.str cc) S := ⟨⟨#[c]⟩, e2, rfl, fun S => t4 chars _ c k1 e1 S⟩
  obtain ⟨cc, q1, q2, q3⟩ := q
  have hw' : (w ++ cc : Str).length = w.length + 1 := by rw [len_app, q2]
  exact ⟨w ++ cc, sOk_app hw q1, hw', fun S => word_run chars w cc chars.length (r % chars.length) (r / chars.length) r i size seed x (fun S => vFdiv_ok _ _ S hp k4) (fun S => vMod_ok _ _ S hp) (fun S => t3 i S) q3 (fun S => t5 w cc (by omega) S) (fun S => t6 chars k1 S) S⟩
theorem word_loop (chars : Str) (hc : sOk chars = true) (h0 : 0 < chars.length) (h1 : chars.length ≤ 1000) (size seed : Int) (is : List Nat) : ∀ (w : Str) (r : Int) (x : Option D), sOk w = true → w.length + is.length ≤ 1000 → ∃ (w' : Str) (r' : Int) (x' : Option D),
    (∀ S, forGo (fun _ => True) (gN 6) wordBody (is.map fun i => D.int (i : Nat)) [some (.int size), some (.str chars), some (.int seed), some (.int 0), some (.str w), some (.int r), x] S = .nx [some (.int size), some (.str chars), some (.int seed), some (.int 0), some (.str w'), some (.int r'), x'] S) ∧ sOk w' = true ∧ w'.length = w.length + is.length := by
  induction is with
  | nil => exact fun w r x hw _ => ⟨w, r, x, fun S => by rw [List.map_nil, forGo_nil _ _ _ _ _ True.intro], hw, by simp⟩
  | cons i is ih =>
    intro w r x hw hl
    rw [List.length_cons] at hl
    obtain ⟨w2, q1, q2, q3⟩ := word_step chars hc h0 h1 size seed i w r x hw (by omega)
    obtain ⟨w', r', x', L, g1, g2⟩ := ih w2 (r / chars.length) (some (.int i)) q1 (by rw [q2]; omega)
    refine ⟨w', r', x', fun S => ?_, g1, by rw [g2, q2, List.length_cons]; omega⟩
    rw [List.map_cons, forGo_cons _ _ _ _ _ _ _ True.intro, q3 S]
    exact L S
theorem word_eq (chars : Str) (hc : sOk chars = true) (h0 : 0 < chars.length) (h1 : chars.length ≤ 1000) (size seed : Int) (h2 : 0 ≤ size) (h3 : size ≤ 100) : ∃ w : Str, (∀ S, F_law_word [.int size, .str chars, .int seed, .int 0] S = .ok (.str w) S) ∧ sOk w = true ∧ (w.length : Int) = size := by
  have e0 : ("" : Str).length = 0 := by decide +kernel
  obtain ⟨w', r', x', L, g1, g2⟩ := word_loop chars hc h0 h1 size seed (List.range size.toNat) "" seed none sk8 (by rw [e0]; simp; omega)
  refine ⟨w', fun S => ?_, g1, by rw [g2, e0]; simp; omega⟩
  have L' := L S
  have q1 : -4611686018427387904 ≤ size := by omega
  have q2 : size < 4611686018427387904 := by omega
  simp [F_law_word, fnM, d_law_word, insAt, vFld, vFldS, vIn, vNotIn, isIn, dctAt, dctW, lstAt, keyD, ofO, vIx, vAdd, vSub, vLt, vGt, vLe, vGe, vLen, lenD, vInt, vNot, vNeg, setAll, mthK, vSetI, vDelI, isDctW, isDct, vMake, rng1, q1, q2]
  simp [L']
theorem a26 : sOk "abcdefghijklmnopqrstuvwxyz" = true ∧ ("abcdefghijklmnopqrstuvwxyz" : Str).length = 26 := by decide +kernel
theorem a37 : sOk "abcdefghijklmnopqrstuvwxyz0123456789." = true ∧ ("abcdefghijklmnopqrstuvwxyz0123456789." : Str).length = 37 := by decide +kernel
theorem w_ne {w : Str} (h : 0 < (w.length : Int)) : w ≠ "" := by
  rintro rfl
  revert h
  decide +kernel
theorem name_eq (c : Int) : ∃ (w : Str) (E : Sto), (∀ S, F_law_name [.int c] S = .ok (.str w) (S ++ E)) ∧ sOk w = true ∧ w ≠ "" := by
  by_cases h : c % 4 < 3
  · have h3 : c / 4 % 3 = 0 ∨ c / 4 % 3 = 1 ∨ c / 4 % 3 = 2 := by omega
    rcases h3 with h3 | h3 | h3
    · exact ⟨"ann", [.lst [.str "ann", .str "bob", .str "eve"]], fun S => by simp [F_law_name, fnM, d_law_name, insAt, vFld, vFldS, vIn, vNotIn, isIn, dctAt, dctW, lstAt, keyD, ofO, vIx, vAdd, vSub, vLt, vGt, vLe, vGe, vLen, lenD, vInt, vNot, vNeg, setAll, mthK, vSetI, vDelI, isDctW, isDct, vMake, vMod, vFdiv, h, h3, atI, ixN], by decide +kernel, by decide +kernel⟩
    · exact ⟨"bob", [.lst [.str "ann", .str "bob", .str "eve"]], fun S => by simp [F_law_name, fnM, d_law_name, insAt, vFld, vFldS, vIn, vNotIn, isIn, dctAt, dctW, lstAt, keyD, ofO, vIx, vAdd, vSub, vLt, vGt, vLe, vGe, vLen, lenD, vInt, vNot, vNeg, setAll, mthK, vSetI, vDelI, isDctW, isDct, vMake, vMod, vFdiv, h, h3, atI, ixN], by decide +kernel, by decide +kernel⟩
    · exact ⟨"eve", [.lst [.str "ann", .str "bob", .str "eve"]], fun S => by simp [F_law_name, fnM, d_law_name, insAt, vFld, vFldS, vIn, vNotIn, isIn, dctAt, dctW, lstAt, keyD, ofO, vIx, vAdd, vSub, vLt, vGt, vLe, vGe, vLen, lenD, vInt, vNot, vNeg, setAll, mthK, vSetI, vDelI, isDctW, isDct, vMake, vMod, vFdiv, h, h3, atI, ixN], by decide +kernel, by decide +kernel⟩
  · obtain ⟨w, e1, e2, e3⟩ := word_eq "abcdefghijklmnopqrstuvwxyz" a26.1 (by rw [a26.2]; decide) (by rw [a26.2]; decide) (1 + c / 4 % 12) (c / 48) (by omega) (by omega)
    exact ⟨w, [], fun S => by simp [F_law_name, fnM, d_law_name, insAt, vFld, vFldS, vIn, vNotIn, isIn, dctAt, dctW, lstAt, keyD, ofO, vIx, vAdd, vSub, vLt, vGt, vLe, vGe, vLen, lenD, vInt, vNot, vNeg, setAll, mthK, vSetI, vDelI, isDctW, isDct, vMake, vMod, vFdiv, h, e1], e2, w_ne (by rw [e3]; omega)⟩
theorem key_eq (c : Int) : ∃ (w : Str) (E : Sto), (∀ S, F_law_key [.int c] S = .ok (.str w) (S ++ E)) ∧ sOk w = true := by
  by_cases h : c % 4 < 3
  · have h3 : c / 4 % 3 = 0 ∨ c / 4 % 3 = 1 ∨ c / 4 % 3 = 2 := by omega
    rcases h3 with h3 | h3 | h3
    · exact ⟨"k", [.lst [.str "k", .str "k.1", .str "k.22"]], fun S => by simp [F_law_key, fnM, d_law_key, insAt, vFld, vFldS, vIn, vNotIn, isIn, dctAt, dctW, lstAt, keyD, ofO, vIx, vAdd, vSub, vLt, vGt, vLe, vGe, vLen, lenD, vInt, vNot, vNeg, setAll, mthK, vSetI, vDelI, isDctW, isDct, vMake, vMod, vFdiv, h, h3, atI, ixN], by decide +kernel⟩
    · exact ⟨"k.1", [.lst [.str "k", .str "k.1", .str "k.22"]], fun S => by simp [F_law_key, fnM, d_law_key, insAt, vFld, vFldS, vIn, vNotIn, isIn, dctAt, dctW, lstAt, keyD, ofO, vIx, vAdd, vSub, vLt, vGt, vLe, vGe, vLen, lenD, vInt, vNot, vNeg, setAll, mthK, vSetI, vDelI, isDctW, isDct, vMake, vMod, vFdiv, h, h3, atI, ixN], by decide +kernel⟩
    · exact ⟨"k.22", [.lst [.str "k", .str "k.1", .str "k.22"]], fun S => by simp [F_law_key, fnM, d_law_key, insAt, vFld, vFldS, vIn, vNotIn, isIn, dctAt, dctW, lstAt, keyD, ofO, vIx, vAdd, vSub, vLt, vGt, vLe, vGe, vLen, lenD, vInt, vNot, vNeg, setAll, mthK, vSetI, vDelI, isDctW, isDct, vMake, vMod, vFdiv, h, h3, atI, ixN], by decide +kernel⟩
  · obtain ⟨w, e1, e2, e3⟩ := word_eq "abcdefghijklmnopqrstuvwxyz0123456789." a37.1 (by rw [a37.2]; decide) (by rw [a37.2]; decide) (1 + c / 4 % 20) (c / 80) (by omega) (by omega)
    exact ⟨w, [], fun S => by simp [F_law_key, fnM, d_law_key, insAt, vFld, vFldS, vIn, vNotIn, isIn, dctAt, dctW, lstAt, keyD, ofO, vIx, vAdd, vSub, vLt, vGt, vLe, vGe, vLen, lenD, vInt, vNot, vNeg, setAll, mthK, vSetI, vDelI, isDctW, isDct, vMake, vMod, vFdiv, h, e1], e2⟩
theorem op_eq (c k : Int) : ∃ (o : Op), (∀ S, ∃ E, F_law_op [.int c, .int k] S = .ok o.d (S ++ E)) ∧ OpOk o ∧ o.name ≠ "" := by
  obtain ⟨r, e1⟩ := rich_eq c k
  obtain ⟨a, e2⟩ := amount_eq (r / 5760)
  obtain ⟨n1, E1, e3, o1, o2⟩ := name_eq (r / 40)
  obtain ⟨n2, E2, e4, o3, o4⟩ := name_eq (r / 480)
  obtain ⟨y, E3, e5, o5⟩ := key_eq (r / 5760 / 36)
  have verbs : ∃ v : Str, sOk v = true ∧ ∃ j : Nat, r % 10 = j ∧ [D.str "create", .str "create", .str "issue", .str "issue", .str "burn", .str "pay", .str "hold", .str "settle", .str "release", .str "close"][j]? = some (.str v) := by
    have h : r % 10 = 0 ∨ r % 10 = 1 ∨ r % 10 = 2 ∨ r % 10 = 3 ∨ r % 10 = 4 ∨ r % 10 = 5 ∨ r % 10 = 6 ∨ r % 10 = 7 ∨ r % 10 = 8 ∨ r % 10 = 9 := by omega
    rcases h with h | h | h | h | h | h | h | h | h | h
    · exact ⟨"create", by decide +kernel, 0, h, rfl⟩
    · exact ⟨"create", by decide +kernel, 1, h, rfl⟩
    · exact ⟨"issue", by decide +kernel, 2, h, rfl⟩
    · exact ⟨"issue", by decide +kernel, 3, h, rfl⟩
    · exact ⟨"burn", by decide +kernel, 4, h, rfl⟩
    · exact ⟨"pay", by decide +kernel, 5, h, rfl⟩
    · exact ⟨"hold", by decide +kernel, 6, h, rfl⟩
    · exact ⟨"settle", by decide +kernel, 7, h, rfl⟩
    · exact ⟨"release", by decide +kernel, 8, h, rfl⟩
    · exact ⟨"close", by decide +kernel, 9, h, rfl⟩
  obtain ⟨v, hv, j, hj, hj2⟩ := verbs
  have hat : atI [D.str "create", .str "create", .str "issue", .str "issue", .str "burn", .str "pay", .str "hold", .str "settle", .str "release", .str "close"] (j : Int) = some (.str v) := by
    have hlt : j < 10 := by omega
    unfold atI
    have e : ixN 10 (j : Int) = some j := by
      unfold ixN
      have h1 : ¬ (j : Int) < 0 := by omega
      simp [h1]
      omega
    rw [show [D.str "create", .str "create", .str "issue", .str "issue", .str "burn", .str "pay", .str "hold", .str "settle", .str "release", .str "close"].length = 10 from rfl, e]
    exact hj2
  by_cases h : v = "issue" ∧ r / 5760 / 36 % 8 = 0
  · refine ⟨⟨v, -1 - r / 10 % 4, n1, n2, 1000000000000000 - r / 5760 / 288 % 4, y⟩, fun S => ⟨.lst [D.str "create", .str "create", .str "issue", .str "issue", .str "burn", .str "pay", .str "hold", .str "settle", .str "release", .str "close"] :: (E1 ++ (E2 ++ E3)), ?_⟩, ⟨hv, o1, o3, o5⟩, o2⟩
    obtain ⟨h1, h2⟩ := h
    subst h1
    simp [F_law_op, fnM, d_law_op, insAt, vFld, vFldS, vIn, vNotIn, isIn, dctAt, dctW, lstAt, keyD, ofO, vIx, vAdd, vSub, vLt, vGt, vLe, vGe, vLen, lenD, vInt, vNot, vNeg, setAll, mthK, vSetI, vDelI, isDctW, isDct, vMake, vMod, vFdiv, e1, e2, e3, e4, e5, hj, hat, vEq_str, sk3, h2, vPow, Op.d]
  · refine ⟨⟨v, -1 - r / 10 % 4, n1, n2, a, y⟩, fun S => ⟨.lst [D.str "create", .str "create", .str "issue", .str "issue", .str "burn", .str "pay", .str "hold", .str "settle", .str "release", .str "close"] :: (E1 ++ (E2 ++ E3)), ?_⟩, ⟨hv, o1, o3, o5⟩, o2⟩
    by_cases h1 : v = "issue"
    · have h2 : ¬ r / 5760 / 36 % 8 = 0 := fun z => h ⟨h1, z⟩
      subst h1
      simp [F_law_op, fnM, d_law_op, insAt, vFld, vFldS, vIn, vNotIn, isIn, dctAt, dctW, lstAt, keyD, ofO, vIx, vAdd, vSub, vLt, vGt, vLe, vGe, vLen, lenD, vInt, vNot, vNeg, setAll, mthK, vSetI, vDelI, isDctW, isDct, vMake, vMod, vFdiv, e1, e2, e3, e4, e5, hj, hat, vEq_str, sk3, h2, vPow, Op.d]
    · simp [F_law_op, fnM, d_law_op, insAt, vFld, vFldS, vIn, vNotIn, isIn, dctAt, dctW, lstAt, keyD, ofO, vIx, vAdd, vSub, vLt, vGt, vLe, vGe, vLen, lenD, vInt, vNot, vNeg, setAll, mthK, vSetI, vDelI, isDctW, isDct, vMake, vMod, vFdiv, e1, e2, e3, e4, e5, hj, hat, vEq_str, sk3, hv, h1, vPow, Op.d]
end Lw

set_option autoImplicit false
set_option maxRecDepth 100000
set_option maxHeartbeats 4000000
set_option linter.all false
namespace Lw
open PySem PySem.Spec L2 Mi
/-! ### rows -/
def ksrt {α : Type} (l : List (Str × α)) : List Str := (l.map (·.1)).mergeSort strLe
theorem srtK_kvs {α : Type} (e : α → D) (l : List (Str × α)) : srtK (kvs e l) = some ((ksrt l).map D.str) := by
  cases l with
  | nil =>
    unfold ksrt
    simp [kvs, srtK, keysI]
  | cons p r =>
    have h1 : keysI (kvs e (p :: r)) = none := rfl
    have h2 : ∀ l : List (Str × α), keysS (kvs e l) = some (l.map (·.1)) := by
      intro l
      induction l with
      | nil => rfl
      | cons p r ih =>
        show (keysS (kvs e r)).map _ = _
        rw [ih]
        rfl
    unfold srtK
    rw [h1, h2]
    rfl
theorem ksrt_perm {α : Type} (l : List (Str × α)) : (ksrt l).Perm (l.map (·.1)) := List.mergeSort_perm _ _
theorem ksrt_mem {α : Type} {l : List (Str × α)} {k : Str} (h : k ∈ ksrt l) : k ∈ l.map (·.1) := (ksrt_perm l).mem_iff.mp h
def St.o (A : St) (n : Str) : Int := (aget A.ow n).getD 0
def St.hh (A : St) (k : Str) : Str × Str × Int := (aget A.hd k).getD ("", "", 0)
def rowD (A : St) (n : Str) : D := .tup [.str n, .int (A.o n), .int (A.b n)]
def heldD (A : St) (k : Str) : D := .tup [.str k, .str (A.hh k).1, .str (A.hh k).2.1, .int (A.hh k).2.2]
def unS : D → Str
  | .str x => x
  | _ => ""
theorem og {A : St} {n : Str} (h : n ∈ ksrt A.ow) : aget A.ow n = some (A.o n) := by
  obtain ⟨v, hv⟩ := aget_mem (ksrt_mem h)
  unfold St.o
  rw [hv]
  rfl
theorem hg {A : St} {n : Str} (h : n ∈ ksrt A.hd) : aget A.hd n = some (A.hh n) := by
  obtain ⟨v, hv⟩ := aget_mem (ksrt_mem h)
  unfold St.hh
  rw [hv]
  rfl
theorem ksrt_len {α : Type} (l : List (Str × α)) : (ksrt l).length = l.length := by
  have := (ksrt_perm l).length_eq
  simpa using this
theorem rows_eq (A M : St) (G : Sto) (I : Inv A) : F_Accounts_rows [.ref 0] (sto A M G) = .ok (.ref (G.length + 9)) (sto A M (G ++ [.lst ((ksrt A.ow).map D.str), .lst ((ksrt A.ow).map (rowD A))])) := by
  have f1 := I.f1
  have key := eLc_gen (fi := iSeq (opS vSort (aC (eFld fl_owners (eV 0)) aN))) (gf := gN 1) (own := [1]) (ft := tYesF) (fe := eTup (aC (eV 1) (aC (op2 vIx (eFld fl_owners (eV 0)) (eV 1)) (aC (op2 vIx (eFld fl_balances (eV 0)) (eV 1)) aN)))) (env := [some (.ref 0), none])
    (S := sto A M G) (S0 := sto A M (G ++ [.lst ((ksrt A.ow).map D.str)])) (ds := (ksrt A.ow).map D.str) (chk := fun S' => S'[G.length + 8]? = some (.lst ((ksrt A.ow).map D.str))) (fun d => rowD A (unS d))
    (by simp [insAt, vFld, vFldS, vIn, vNotIn, isIn, dctAt, dctW, lstAt, keyD, ofO, vIx, vAdd, vSub, vLt, vGt, vLe, vGe, vLen, lenD, vInt, vNot, vNeg, setAll, mthK, vSetI, vDelI, isDctW, isDct, vMake, fl_owners, vSort, sortD, srtK_kvs, seqW]) (fun acc => by simp) (fun d hd acc => by
        obtain ⟨n, hn, rfl⟩ := List.mem_map.mp hd
        have g1 := og hn
        have g2 := I.bal.get g1
        refine ⟨[some (.ref 0), some (.str n)], by simp [wipeE], rfl, ?_⟩
        simp [insAt, vFld, vFldS, vIn, vNotIn, isIn, dctAt, dctW, lstAt, keyD, ofO, vIx, vAdd, vSub, vLt, vGt, vLe, vGe, vLen, lenD, vInt, vNot, vNeg, setAll, mthK, vSetI, vDelI, isDctW, isDct, vMake, fl_owners, fl_balances, kvs_get, g1, g2, rowD, unS]) (by simp [ksrt_len]; omega)
  have e : ((ksrt A.ow).map D.str).map (fun d => rowD A (unS d)) = (ksrt A.ow).map (rowD A) := by
    rw [List.map_map]
    rfl
  rw [e] at key
  unfold F_Accounts_rows d_Accounts_rows fnM
  simp only [List.length_singleton, if_true, sRet_ap]
  rw [show ([D.ref 0].map some ++ List.replicate (2 - 1) none : En) = [some (.ref 0), none] from rfl, key]
  simp
noncomputable abbrev heldBody : Fs := (sSeq (sAsg (op2 vIx (eFld fl_holds (eV 0)) (eV 2)) (gT [3, 4, 5]))
  (sDrop (eBM "list" vAppend (eV 1) (aC (eTup (aC (eV 2) (aC (eV 3) (aC (eV 4) (aC (eV 5) aN))))) aN))))
theorem held_loop (A M : St) (G : Sto) (K : List D) (chk : Sto → Prop) (hc : ∀ acc, chk (sto A M (G ++ [.lst acc, .lst K]))) : ∀ (l : List Str) (acc : List D) (x y z u : Option D), (∀ k ∈ l, aget A.hd k = some (A.hh k)) → acc.length + l.length ≤ 1000 → ∃ x' y' z' u' : Option D,
    forGo chk (gN 2) heldBody (l.map D.str) [some (.ref 0), some (.ref (G.length + 8)), x, y, z, u] (sto A M (G ++ [.lst acc, .lst K])) =
      .nx [some (.ref 0), some (.ref (G.length + 8)), x', y', z', u'] (sto A M (G ++ [.lst (acc ++ l.map (heldD A)), .lst K]))
  | [], acc, x, y, z, u, _, _ => ⟨x, y, z, u, by rw [List.map_nil, forGo_nil _ _ _ _ _ (hc acc)]; simp⟩
  | k :: l, acc, x, y, z, u, h, hl => by
    have g := h k List.mem_cons_self
    rw [List.length_cons] at hl
    obtain ⟨x', y', z', u', ih⟩ := held_loop A M G K chk hc l (acc ++ [heldD A k]) (some (.str k)) (some (.str (A.hh k).1)) (some (.str (A.hh k).2.1)) (some (.int (A.hh k).2.2)) (fun k' hk => h k' (List.mem_cons_of_mem _ hk)) (by simp; omega)
    refine ⟨x', y', z', u', ?_⟩
    have k1 : acc.length < 16777216 := by omega
    rw [List.map_cons, forGo_cons _ _ _ _ _ _ _ (hc acc)]
    have e : (gN 2 (.str k) [some (.ref 0), some (.ref (G.length + 8)), x, y, z, u] (sto A M (G ++ [.lst acc, .lst K]))).seq heldBody = .nx [some (.ref 0), some (.ref (G.length + 8)), some (.str k), some (.str (A.hh k).1), some (.str (A.hh k).2.1), some (.int (A.hh k).2.2)] (sto A M (G ++ [.lst (acc ++ [heldD A k]), .lst K])) := by
      simp [insAt, vFld, vFldS, vIn, vNotIn, isIn, dctAt, dctW, lstAt, keyD, ofO, vIx, vAdd, vSub, vLt, vGt, vLe, vGe, vLen, lenD, vInt, vNot, vNeg, setAll, mthK, vSetI, vDelI, isDctW, isDct, vMake, fl_holds, kvs_get, g, eH, bmK, tyD, vAppend, k1, heldD]
    rw [e]
    simp only []
    rw [ih]
    simp
theorem held_eq (A M : St) (G : Sto) (I : Inv A) : F_Accounts_held [.ref 0] (sto A M G) = .ok (.ref (G.length + 8)) (sto A M (G ++ [.lst ((ksrt A.hd).map (heldD A)), .lst ((ksrt A.hd).map D.str)])) := by
  have f3 := I.f3
  obtain ⟨x', y', z', u', L⟩ := held_loop A M G ((ksrt A.hd).map D.str) (fun S' => S'[G.length + 9]? = some (.lst ((ksrt A.hd).map D.str))) (fun acc => by simp) (ksrt A.hd) [] none none none none (fun k hk => hg hk) (by simp [ksrt_len]; omega)
  have L' : forGo (fun S' => S'[(sto A M (G ++ [.lst []])).length]? = some (.lst ((ksrt A.hd).map D.str))) (gN 2) heldBody ((ksrt A.hd).map D.str) [some (.ref 0), some (.ref (sto A M G).length), none, none, none, none] (sto A M (G ++ [.lst [], .lst ((ksrt A.hd).map D.str)])) =
      .nx [some (.ref 0), some (.ref (sto A M G).length), x', y', z', u'] (sto A M (G ++ [.lst ((ksrt A.hd).map (heldD A)), .lst ((ksrt A.hd).map D.str)])) := by
    have e : (sto A M (G ++ [.lst []])).length = G.length + 9 := by simp
    have e2 : (sto A M G).length = G.length + 8 := by simp
    rw [e, e2]
    exact L
  simp [fl_holds, heldBody, sto] at L'
  simp [F_Accounts_held, fnM, d_Accounts_held, insAt, vFld, vFldS, vIn, vNotIn, isIn, dctAt, dctW, lstAt, keyD, ofO, vIx, vAdd, vSub, vLt, vGt, vLe, vGe, vLen, lenD, vInt, vNot, vNeg, setAll, mthK, vSetI, vDelI, isDctW, isDct, vMake, fl_holds, vSort, sortD, srtK_kvs, seqW]
  rw [L']
  simp
end Lw

set_option autoImplicit false
set_option maxRecDepth 100000
set_option maxHeartbeats 4000000
set_option linter.all false
namespace Lw
open PySem PySem.Spec L2 Mi
/-! ### the law's look at both -/
abbrev e10 (x2 x3 x4 x5 x6 x7 x8 x9 : Option D) : En := [some (.ref 0), some (.ref 7), x2, x3, x4, x5, x6, x7, x8, x9]
theorem same1 (A M : St) (G : Sto) (I : Inv M) : eLc (iSeq (opS vSort (aC (op2 vIx (eV 1) (eC (.int 0))) aN))) (gN 3) [3] tYesF (eTup (aC (eV 3) (aC (op2 vIx (op2 vIx (eV 1) (eC (.int 0))) (eV 3)) (aC (op2 vIx (op2 vIx (eV 1) (eC (.int 1))) (eV 3)) aN)))) (e10 none none none none none none none none) (sto A M G) =
    .ok (.ref (G.length + 9)) (sto A M (G ++ [.lst ((ksrt M.ow).map D.str), .lst ((ksrt M.ow).map (rowD M))])) := by
  have f1 := I.f1
  have key := eLc_gen (fi := iSeq (opS vSort (aC (op2 vIx (eV 1) (eC (.int 0))) aN))) (gf := gN 3) (own := [3]) (ft := tYesF) (fe := eTup (aC (eV 3) (aC (op2 vIx (op2 vIx (eV 1) (eC (.int 0))) (eV 3)) (aC (op2 vIx (op2 vIx (eV 1) (eC (.int 1))) (eV 3)) aN)))) (env := e10 none none none none none none none none)
    (S := sto A M G) (S0 := sto A M (G ++ [.lst ((ksrt M.ow).map D.str)])) (ds := (ksrt M.ow).map D.str) (chk := fun S' => S'[G.length + 8]? = some (.lst ((ksrt M.ow).map D.str))) (fun d => rowD M (unS d))
    (by simp [insAt, vFld, vFldS, vIn, vNotIn, isIn, dctAt, dctW, lstAt, keyD, ofO, vIx, vAdd, vSub, vLt, vGt, vLe, vGe, vLen, lenD, vInt, vNot, vNeg, setAll, mthK, vSetI, vDelI, isDctW, isDct, vMake, atI, ixN, vSort, sortD, srtK_kvs, seqW]) (fun acc => by simp) (fun d hd acc => by
        obtain ⟨n, hn, rfl⟩ := List.mem_map.mp hd
        have g1 := og hn
        have g2 := I.bal.get g1
        refine ⟨e10 none (some (.str n)) none none none none none none, by simp [wipeE], rfl, ?_⟩
        simp [insAt, vFld, vFldS, vIn, vNotIn, isIn, dctAt, dctW, lstAt, keyD, ofO, vIx, vAdd, vSub, vLt, vGt, vLe, vGe, vLen, lenD, vInt, vNot, vNeg, setAll, mthK, vSetI, vDelI, isDctW, isDct, vMake, atI, ixN, kvs_get, g1, g2, rowD, unS]) (by simp [ksrt_len]; omega)
  have e : ((ksrt M.ow).map D.str).map (fun d => rowD M (unS d)) = (ksrt M.ow).map (rowD M) := by
    rw [List.map_map]
    rfl
  rw [e] at key
  rw [key]
  simp
theorem same2 (A M : St) (G : Sto) (I : Inv M) (r : Option D) : eLc (iSeq (opS vSort (aC (op2 vIx (eV 1) (eC (.int 2))) aN))) (gN 5) [5] tYesF (eTup (aC (eV 5) (aC (op2 vIx (op2 vIx (op2 vIx (eV 1) (eC (.int 2))) (eV 5)) (eC (.int 0))) (aC (op2 vIx (op2 vIx (op2 vIx (eV 1) (eC (.int 2))) (eV 5)) (eC (.int 1))) (aC (op2 vIx (op2 vIx (op2 vIx (eV 1) (eC (.int 2))) (eV 5)) (eC (.int 2))) aN))))) (e10 r none none none none none none none) (sto A M G) =
    .ok (.ref (G.length + 9)) (sto A M (G ++ [.lst ((ksrt M.hd).map D.str), .lst ((ksrt M.hd).map (heldD M))])) := by
  have f1 := I.f3
  have key := eLc_gen (fi := iSeq (opS vSort (aC (op2 vIx (eV 1) (eC (.int 2))) aN))) (gf := gN 5) (own := [5]) (ft := tYesF) (fe := eTup (aC (eV 5) (aC (op2 vIx (op2 vIx (op2 vIx (eV 1) (eC (.int 2))) (eV 5)) (eC (.int 0))) (aC (op2 vIx (op2 vIx (op2 vIx (eV 1) (eC (.int 2))) (eV 5)) (eC (.int 1))) (aC (op2 vIx (op2 vIx (op2 vIx (eV 1) (eC (.int 2))) (eV 5)) (eC (.int 2))) aN))))) (env := e10 r none none none none none none none)
    (S := sto A M G) (S0 := sto A M (G ++ [.lst ((ksrt M.hd).map D.str)])) (ds := (ksrt M.hd).map D.str) (chk := fun S' => S'[G.length + 8]? = some (.lst ((ksrt M.hd).map D.str))) (fun d => heldD M (unS d))
    (by simp [insAt, vFld, vFldS, vIn, vNotIn, isIn, dctAt, dctW, lstAt, keyD, ofO, vIx, vAdd, vSub, vLt, vGt, vLe, vGe, vLen, lenD, vInt, vNot, vNeg, setAll, mthK, vSetI, vDelI, isDctW, isDct, vMake, atI, ixN, vSort, sortD, srtK_kvs, seqW]) (fun acc => by simp) (fun d hd acc => by
        obtain ⟨n, hn, rfl⟩ := List.mem_map.mp hd
        have g1 := hg hn
        refine ⟨e10 r none none (some (.str n)) none none none none, by simp [wipeE], rfl, ?_⟩
        simp [insAt, vFld, vFldS, vIn, vNotIn, isIn, dctAt, dctW, lstAt, keyD, ofO, vIx, vAdd, vSub, vLt, vGt, vLe, vGe, vLen, lenD, vInt, vNot, vNeg, setAll, mthK, vSetI, vDelI, isDctW, isDct, vMake, atI, ixN, kvs_get, g1, heldD, eH, unS]) (by simp [ksrt_len]; omega)
  have e : ((ksrt M.hd).map D.str).map (fun d => heldD M (unS d)) = (ksrt M.hd).map (heldD M) := by
    rw [List.map_map]
    rfl
  rw [e] at key
  rw [key]
  simp
/-! two equal lists -/
theorem toP_rows (S : Sto) (k : Nat) (l : List D) (ps : List PyData) (h : S[k]? = some (.lst l)) (hp : toPs S 15 l = some ps) : toP S 16 (.ref k) = some (.list ps) := by
  unfold toP
  rw [h]
  simp only [hp]
  rfl
theorem toPs_map (S : Sto) (f : Str → D) (g : Str → PyData) (l : List Str) (h : ∀ x ∈ l, toP S 15 (f x) = some (g x)) : toPs S 15 (l.map f) = some (l.map g) := by
  induction l with
  | nil => simp [toPs]
  | cons x r ih =>
    rw [List.map_cons, List.map_cons]
    unfold toPs
    rw [h x List.mem_cons_self, ih fun y hy => h y (List.mem_cons_of_mem _ hy)]
theorem shaped_list (ps : List PyData) (h1 : PyData.canLayAll0 ps = true) (h2 : PyData.depthAll ps ≤ 10) : SeqAt.shaped (.list ps) = true := by
  unfold SeqAt.shaped
  have e1 : (PyData.list ps).canLay0 = true := by simp [PyData.canLay0, h1]
  have e2 : (PyData.list ps).depth ≤ 64 := by
    simp [PyData.depth]
    omega
  rw [e1]
  simpa using e2
theorem lay_map (g : Str → PyData) (l : List Str) (h : ∀ x ∈ l, (g x).canLay0 = true ∧ (g x).depth ≤ 5) : PyData.canLayAll0 (l.map g) = true ∧ PyData.depthAll (l.map g) ≤ 5 := by
  induction l with
  | nil => simp [PyData.canLayAll0, PyData.depthAll]
  | cons x r ih =>
    obtain ⟨i1, i2⟩ := ih fun y hy => h y (List.mem_cons_of_mem _ hy)
    obtain ⟨j1, j2⟩ := h x List.mem_cons_self
    rw [List.map_cons]
    simp [PyData.canLayAll0, PyData.depthAll, i1, j1]
    omega
theorem ne_rows (S : Sto) (j k : Nat) (f : Str → D) (g : Str → PyData) (l : List Str) (hj : S[j]? = some (.lst (l.map f))) (hk : S[k]? = some (.lst (l.map f))) (h : ∀ x ∈ l, toP S 15 (f x) = some (g x) ∧ (g x).canLay0 = true ∧ (g x).depth ≤ 5) :
    vNe (.ref j) (.ref k) S = .ok (.bl false) S := by
  have hp := toPs_map S f g l fun x hx => (h x hx).1
  obtain ⟨i1, i2⟩ := lay_map g l fun x hx => (h x hx).2
  unfold vNe
  rw [eqD_same S (.ref j) (.ref k) _ (toP_rows S j _ _ hj hp) (toP_rows S k _ _ hk hp) (shaped_list _ i1 (by omega))]
  rfl
def rowP (A : St) (n : Str) : PyData := .tuple [.str n, .int (A.o n), .int (A.b n)]
def heldP (A : St) (k : Str) : PyData := .tuple [.str k, .str (A.hh k).1, .str (A.hh k).2.1, .int (A.hh k).2.2]
theorem row_ok (A : St) (I : Inv A) (S : Sto) (n : Str) (hn : n ∈ ksrt A.ow) : toP S 15 (rowD A n) = some (rowP A n) ∧ (rowP A n).canLay0 = true ∧ (rowP A n).depth ≤ 5 := by
  have h : PyData.strOk n = true := I.oso n (ksrt_mem hn)
  refine ⟨by simp [rowD, rowP, toP, toPs], by simp [rowP, PyData.canLay0, PyData.canLayAll0, h], by simp [rowP, PyData.depth, PyData.depthAll]⟩
theorem held_ok (A : St) (I : Inv A) (S : Sto) (n : Str) (hn : n ∈ ksrt A.hd) : toP S 15 (heldD A n) = some (heldP A n) ∧ (heldP A n).canLay0 = true ∧ (heldP A n).depth ≤ 5 := by
  obtain ⟨h1, h2, h3⟩ := I.hso _ (aget_some (hg hn))
  have h1' : PyData.strOk n = true := h1
  have h2' : PyData.strOk (A.hh n).1 = true := h2
  have h3' : PyData.strOk (A.hh n).2.1 = true := h3
  refine ⟨by simp [heldD, heldP, toP, toPs], by simp [heldP, PyData.canLay0, PyData.canLayAll0, h1', h2', h3'], by simp [heldP, PyData.depth, PyData.depthAll]⟩
/-! sums of a column -/
theorem col_sum (S : Sto) (r : Nat) (slot : Nat) (l : List Str) (f : Str → D) (v : Str → Int) (j : Int) (env : En) (h : S[r]? = some (.lst (l.map f))) (hs : env[slot]? = some (some (.ref r))) (hl : l.length ≤ 1000) (h7 : 7 < env.length)
    (hv : ∀ n ∈ l, ∀ S', vIx (f n) (.int j) S' = .ok (.int (v n)) S') (hr : r < S.length) :
    eLc (iSeq (eV slot)) (gN 7) [7] tYesF (op2 vIx (eV 7) (eC (.int j))) env S = .ok (.ref S.length) (S ++ [.lst (l.map fun n => .int (v n))]) := by
  have hS : ∀ acc, (S ++ [.lst acc])[r]? = some (.lst (l.map f)) := fun acc => by rw [List.getElem?_append_left hr]; exact h
  have hd : ∃ g : D → D, (∀ n ∈ l, g (f n) = .int (v n)) ∧ ∀ d ∈ l.map f, ∀ S', vIx d (.int j) S' = .ok (g d) S' := by
    classical
    refine ⟨fun d => if hd : ∃ n ∈ l, f n = d then .int (v hd.choose) else .non, fun n hn => ?_, fun d hd S' => ?_⟩
    · have hx : ∃ m ∈ l, f m = f n := ⟨n, hn, rfl⟩
      simp only [dif_pos hx]
      have q1 := hv _ hx.choose_spec.1 []
      rw [hx.choose_spec.2, hv n hn []] at q1
      injection q1 with q2 _
      exact q2.symm
    · have hx : ∃ m ∈ l, f m = d := by
        obtain ⟨m, hm, e⟩ := List.mem_map.mp hd
        exact ⟨m, hm, e⟩
      simp only [dif_pos hx]
      have q1 := hv _ hx.choose_spec.1 S'
      rw [hx.choose_spec.2] at q1
      exact q1
  obtain ⟨g, g1, g2⟩ := hd
  have key := eLc_gen (fi := iSeq (eV slot)) (gf := gN 7) (own := [7]) (ft := tYesF) (fe := op2 vIx (eV 7) (eC (.int j))) (env := env) (S := S) (S0 := S) (ds := l.map f) (chk := fun S' => S'[r]? = some (.lst (l.map f))) g
    (by simp [hs, seqW, lstAt, h]) hS (fun d hd acc => by
      refine ⟨(env.set 7 none).set 7 (some d), by simp [wipeE], rfl, ?_⟩
      simp [h7, g2 d hd]) (by simp; omega)
  rw [key, List.map_map]
  congr 4
  exact List.map_congr_left fun n hn => g1 n hn
end Lw

set_option autoImplicit false
set_option maxRecDepth 100000
set_option maxHeartbeats 4000000
set_option linter.all false
namespace Lw
open PySem PySem.Spec L2 Mi
theorem perm_sum {l m : List Int} (h : l.Perm m) : l.sum = m.sum := by
  induction h with
  | nil => rfl
  | cons x _ ih => simp [ih]
  | swap x y l => simp; omega
  | trans _ _ i1 i2 => exact i1.trans i2
theorem sum_srt {α : Type} (l : List (Str × α)) (f : Str → Int) (g : α → Int) (h : ∀ p ∈ l, f p.1 = g p.2) : ((ksrt l).map f).sum = (l.map fun p => g p.2).sum := by
  have h1 : ((ksrt l).map f).Perm ((l.map (·.1)).map f) := (ksrt_perm l).map f
  rw [perm_sum h1, List.map_map]
  congr 1
  exact List.map_congr_left h
theorem intL_ints (l : List Str) (v : Str → Int) : intL (l.map fun n => D.int (v n)) = some (l.map v) := by
  rw [show (l.map fun n => D.int (v n)) = (l.map v).map D.int by rw [List.map_map]; rfl]
  exact intL_map _
noncomputable abbrev sameBody : Fs := (sIf (tOrF (tsB (op2 vNe (eMth [(2, 1, F_Accounts_owner)] (eV 0) (aC (eV 3) aN)) (eV 8))) (tsB (op2 vNe (eMth [(2, 1, F_Accounts_balance)] (eV 0) (aC (eV 3) aN)) (eV 9)))) (sRet (eC (.bl false))) sNx)
theorem same_loop (A M : St) (G : Sto) (I : Inv A) (chk : Sto → Prop) (hc : chk (sto A M G)) : ∀ (l : List Str) (x2 x3 x4 x5 x6 x7 x8 x9 : Option D), (∀ k ∈ l, k ∈ ksrt A.ow) → ∃ x3' x8' x9' : Option D,
    forGo chk (gT [3, 8, 9]) sameBody (l.map (rowD A)) (e10 x2 x3 x4 x5 x6 x7 x8 x9) (sto A M G) = .nx (e10 x2 x3' x4 x5 x6 x7 x8' x9') (sto A M G)
  | [], x2, x3, x4, x5, x6, x7, x8, x9, _ => ⟨x3, x8, x9, by rw [List.map_nil, forGo_nil _ _ _ _ _ hc]⟩
  | k :: l, x2, x3, x4, x5, x6, x7, x8, x9, h => by
    have hk := h k List.mem_cons_self
    have g1 := og hk
    have g2 := I.bal.get g1
    have q1 := owner_eq A M G k
    have q2 := balance_eq A M G k
    rw [g1] at q1
    rw [g2] at q2
    obtain ⟨x3', x8', x9', ih⟩ := same_loop A M G I chk hc l x2 (some (.str k)) x4 x5 x6 x7 (some (.int (A.o k))) (some (.int (A.b k))) fun y hy => h y (List.mem_cons_of_mem _ hy)
    refine ⟨x3', x8', x9', ?_⟩
    rw [List.map_cons, forGo_cons _ _ _ _ _ _ _ hc]
    have e : (gT [3, 8, 9] (rowD A k) (e10 x2 x3 x4 x5 x6 x7 x8 x9) (sto A M G)).seq sameBody = .nx (e10 x2 (some (.str k)) x4 x5 x6 x7 (some (.int (A.o k))) (some (.int (A.b k)))) (sto A M G) := by
      simp [insAt, vFld, vFldS, vIn, vNotIn, isIn, dctAt, dctW, lstAt, keyD, ofO, vIx, vAdd, vSub, vLt, vGt, vLe, vGe, vLen, lenD, vInt, vNot, vNeg, setAll, mthK, vSetI, vDelI, isDctW, isDct, vMake, rowD, q1, q2]
    rw [e]
    exact ih
theorem seq_nx {f g : Fs} {env env1 : En} {S S1 : Sto} (h : f env S = .nx env1 S1) : sSeq f g env S = g env1 S1 := by rw [sSeq_ap, h, Os.seq_nx]
theorem sSet_of {i : Nat} {f : Fx D} {env : En} {S S1 : Sto} {d : D} (h : f env S = .ok d S1) : sSet i f env S = .nx (env.set i (some d)) S1 := by rw [sSet_ap, h, Ou.thn_ok]
def cutS (l : List Str) : List Str := (l.drop (HT.sIx l.length 0 none)).take (HT.sIx l.length l.length (some 3) - HT.sIx l.length 0 none)
theorem cutS_map (l : List Str) (f : Str → D) : cutD (l.map f) none (some 3) = (cutS l).map f := by
  unfold cutD cutS
  rw [List.map_take, List.map_drop, List.length_map]
theorem cutS_mem {l : List Str} {k : Str} (h : k ∈ cutS l) : k ∈ l := List.mem_of_mem_drop (List.mem_of_mem_take h)
theorem same3 (A : St) (G : Sto) (I : Inv A) (r1 r2 : Nat) (x3 x5 x6 x7 x8 x9 : Option D) (h1 : ∀ X, (sto A A (G ++ X))[r1]? = some (.lst ((ksrt A.ow).map (rowD A)))) (h2 : ∀ X, (sto A A (G ++ X))[r2]? = some (.lst ((ksrt A.hd).map (heldD A)))) : ∃ E,
    sIf (tOrF (tsB (op2 vNe (eMth [(2, 0, F_Accounts_rows)] (eV 0) aN) (eV 2))) (tsB (op2 vNe (eMth [(2, 0, F_Accounts_held)] (eV 0) aN) (eV 4)))) (sRet (eC (.bl false))) sNx (e10 (some (.ref r1)) x3 (some (.ref r2)) x5 x6 x7 x8 x9) (sto A A G) =
      .nx (e10 (some (.ref r1)) x3 (some (.ref r2)) x5 x6 x7 x8 x9) (sto A A (G ++ E)) := by
  have q1 := rows_eq A A G I
  have q2 := held_eq A A (G ++ [.lst ((ksrt A.ow).map D.str), .lst ((ksrt A.ow).map (rowD A))]) I
  refine ⟨[.lst ((ksrt A.ow).map D.str), .lst ((ksrt A.ow).map (rowD A))] ++ [.lst ((ksrt A.hd).map (heldD A)), .lst ((ksrt A.hd).map D.str)], ?_⟩
  have n1 := ne_rows (sto A A (G ++ [.lst ((ksrt A.ow).map D.str), .lst ((ksrt A.ow).map (rowD A))])) (G.length + 9) r1 (rowD A) (rowP A) (ksrt A.ow) (by simp) (h1 _) (fun x hx => row_ok A I _ x hx)
  have n2 := ne_rows (sto A A (G ++ [.lst ((ksrt A.ow).map D.str), .lst ((ksrt A.ow).map (rowD A))] ++ [.lst ((ksrt A.hd).map (heldD A)), .lst ((ksrt A.hd).map D.str)])) ((G ++ [O.lst ((ksrt A.ow).map D.str), O.lst ((ksrt A.ow).map (rowD A))]).length + 8) r2 (heldD A) (heldP A) (ksrt A.hd) (by simp) (by rw [List.append_assoc]; exact h2 _) (fun x hx => held_ok A I _ x hx)
  rw [← List.append_assoc]
  generalize hS3 : sto A A (G ++ [.lst ((ksrt A.ow).map D.str), .lst ((ksrt A.ow).map (rowD A))]) = S3 at *
  have hS3' : insAt S3 (.ref 0) = some (0, 2, [some (.ref 1), some (.ref 2), some (.ref 3), some (.int A.t)]) := by rw [← hS3]; rfl
  simp only [sIf_ap, tOrF_ap, tsB_ap, op2_ap, eMth_ap, eV_ap, List.getElem?_cons_zero, List.getElem?_cons_succ, eVK_s, Ou.bind_ok, mthK, insAt, List.lookup_cons, aN_ap, List.length_nil, beq_self_eq_true, if_true, q1, n1, bK_b, ifB_f]
  simp only [show S3[0]? = some (.ins 2 [some (.ref 1), some (.ref 2), some (.ref 3), some (.int A.t)]) from by rw [← hS3]; rfl, List.lookup_cons, beq_self_eq_true, Ou.bind_ok, List.length_nil, if_true, q2, n2, bK_b, ifB_f, Ou.thn_ok, ifK_f, sNx_ap]
theorem same4 (A : St) (G : Sto) (I : Inv A) (r1 r2 : Nat) (x3 x5 x6 x7 x8 x9 : Option D) (h1 : ∀ X, (sto A A (G ++ X))[r1]? = some (.lst ((ksrt A.ow).map (rowD A)))) (h2 : ∀ X, (sto A A (G ++ X))[r2]? = some (.lst ((ksrt A.hd).map (heldD A)))) (b1 : r1 < G.length + 8) (b2 : r2 < G.length + 8) : ∃ E,
    sSet 6 (op2 vAdd (opS vSum (aC (eLc (iSeq (eV 2)) (gN 7) [7] tYesF (op2 vIx (eV 7) (eC (.int 2)))) aN)) (opS vSum (aC (eLc (iSeq (eV 4)) (gN 7) [7] tYesF (op2 vIx (eV 7) (eC (.int 3)))) aN))) (e10 (some (.ref r1)) x3 (some (.ref r2)) x5 x6 x7 x8 x9) (sto A A G) =
      .nx (e10 (some (.ref r1)) x3 (some (.ref r2)) x5 (some (.int A.t)) x7 x8 x9) (sto A A (G ++ E)) := by
  have f1 := I.f1
  have f3 := I.f3
  have L1 := col_sum (sto A A G) r1 2 (ksrt A.ow) (rowD A) A.b 2 (e10 (some (.ref r1)) x3 (some (.ref r2)) x5 x6 x7 x8 x9) (by have := h1 []; rw [List.append_nil] at this; exact this) rfl (by rw [ksrt_len]; omega) (by simp) (fun n hn S' => by simp [vIx, rowD, atI, ixN]) (by simp; omega)
  have L2 := col_sum (sto A A (G ++ [.lst ((ksrt A.ow).map fun n => .int (A.b n))])) r2 4 (ksrt A.hd) (heldD A) (fun n => (A.hh n).2.2) 3 (e10 (some (.ref r1)) x3 (some (.ref r2)) x5 x6 x7 x8 x9) (h2 _) rfl (by rw [ksrt_len]; omega) (by simp) (fun n hn S' => by simp [vIx, heldD, atI, ixN]) (by simp; omega)
  have s1 : ((ksrt A.ow).map A.b).sum = (A.bal.map (·.2)).sum := by
    have e : ksrt A.ow = ksrt A.bal := by unfold ksrt; rw [I.ks]
    rw [e]
    exact sum_srt A.bal A.b (fun x => x) fun p hp => by
      have := aget_of I.bnd hp
      unfold St.b
      rw [this]
      rfl
  have s2 : ((ksrt A.hd).map fun n => (A.hh n).2.2).sum = (A.hd.map (·.2.2.2)).sum := sum_srt A.hd (fun n => (A.hh n).2.2) (fun p => p.2.2) fun p hp => by
      have := aget_of I.hnd hp
      unfold St.hh
      rw [this]
      rfl
  have v1 : vSum [.ref (sto A A G).length] (sto A A G ++ [.lst ((ksrt A.ow).map fun n => .int (A.b n))]) = .ok (.int (A.bal.map (·.2)).sum) (sto A A G ++ [.lst ((ksrt A.ow).map fun n => .int (A.b n))]) := by
    simp only [vSum, intsOf, lstAt_app, Option.bind_some, intL_ints, s1]
  have v2 : ∀ S : Sto, vSum [.ref S.length] (S ++ [.lst ((ksrt A.hd).map fun n => .int (A.hh n).2.2)]) = .ok (.int (A.hd.map (·.2.2.2)).sum) (S ++ [.lst ((ksrt A.hd).map fun n => .int (A.hh n).2.2)]) := fun S => by
    have e := intL_ints (ksrt A.hd) fun n => (A.hh n).2.2
    simp only [vSum, intsOf, lstAt_app, Option.bind_some, e, s2]
  refine ⟨[.lst ((ksrt A.ow).map fun n => .int (A.b n))] ++ [.lst ((ksrt A.hd).map fun n => .int (A.hh n).2.2)], ?_⟩
  have c1 : sto A A G ++ [.lst ((ksrt A.ow).map fun n => .int (A.b n))] = sto A A (G ++ [.lst ((ksrt A.ow).map fun n => .int (A.b n))]) := rfl
  rw [c1] at L1 v1
  have v2' := v2 (sto A A (G ++ [.lst ((ksrt A.ow).map fun n => .int (A.b n))]))
  have ht := I.tot
  simp only [sSet_ap, op2_ap, opS_ap, aC_ap, aN_ap, L1, L2, v1, v2', Ou.bind_ok, Ou.thn_ok]
  have va : ∀ S, vAdd (.int (A.bal.map (·.2)).sum) (.int (A.hd.map (·.2.2.2)).sum) S = .ok (.int A.t) S := fun S => by rw [ht]; rfl
  rw [va]
  simp only [Ou.thn_ok, ← List.append_assoc]
  rfl
theorem same_eq (A : St) (G : Sto) (I : Inv A) : ∃ E, F_law_same [.ref 0, .ref 7] (sto A A G) = .ok (.bl true) (sto A A (G ++ E)) := by
  have f1 := I.f1
  have f3 := I.f3
  have S1 := same1 A A G I
  have S2 := same2 A A (G ++ [.lst ((ksrt A.ow).map D.str), .lst ((ksrt A.ow).map (rowD A))]) I (some (.ref (G.length + 9)))
  have lG : (G ++ [O.lst ((ksrt A.ow).map D.str), .lst ((ksrt A.ow).map (rowD A))]).length = G.length + 2 := by simp
  rw [lG] at S2
  generalize hG2 : G ++ [O.lst ((ksrt A.ow).map D.str), .lst ((ksrt A.ow).map (rowD A))] ++ [.lst ((ksrt A.hd).map D.str), .lst ((ksrt A.hd).map (heldD A))] = G2 at S2
  have l2 : G2.length = G.length + 4 := by rw [← hG2]; simp
  have at1 : ∀ X, (sto A A (G2 ++ X))[G.length + 9]? = some (.lst ((ksrt A.ow).map (rowD A))) := fun X => by rw [← hG2]; simp
  have at2 : ∀ X, (sto A A (G2 ++ X))[G.length + 2 + 9]? = some (.lst ((ksrt A.hd).map (heldD A))) := fun X => by rw [← hG2]; simp
  obtain ⟨E3, S3⟩ := same3 A G2 I (G.length + 9) (G.length + 2 + 9) none none none none none none at1 at2
  obtain ⟨E4, S4⟩ := same4 A (G2 ++ E3) I (G.length + 9) (G.length + 2 + 9) none none none none none none (fun X => by rw [List.append_assoc]; exact at1 _) (fun X => by rw [List.append_assoc]; exact at2 _) (by simp; omega) (by simp; omega)
  have hc4 : (sto A A (G2 ++ E3 ++ E4))[G.length + 9]? = some (.lst ((ksrt A.ow).map (rowD A))) := by rw [List.append_assoc]; exact at1 _
  obtain ⟨x3, x8, x9, S5⟩ := same_loop A A (G2 ++ E3 ++ E4 ++ [.lst ((cutS (ksrt A.ow)).map (rowD A))]) I (fun S' => S'[(sto A A (G2 ++ E3 ++ E4)).length]? = some (.lst ((cutS (ksrt A.ow)).map (rowD A)))) (by simp) (cutS (ksrt A.ow)) (some (.ref (G.length + 9))) none (some (.ref (G.length + 2 + 9))) none (some (.int A.t)) none none none fun k hk => cutS_mem hk
  have F5 : sFor (iSeq (eSl (eV 2) oN (oS (eC (.int 3))))) (gT [3, 8, 9]) sameBody (e10 (some (.ref (G.length + 9))) none (some (.ref (G.length + 2 + 9))) none (some (.int A.t)) none none none) (sto A A (G2 ++ E3 ++ E4)) = .nx (e10 (some (.ref (G.length + 9))) x3 (some (.ref (G.length + 2 + 9))) none (some (.int A.t)) none x8 x9) (sto A A (G2 ++ E3 ++ E4 ++ [.lst ((cutS (ksrt A.ow)).map (rowD A))])) := by
    have w : vSl (.ref (G.length + 9)) none (some 3) (sto A A (G2 ++ E3 ++ E4)) = .ok (.ref (sto A A (G2 ++ E3 ++ E4)).length) (sto A A (G2 ++ E3 ++ E4 ++ [.lst ((cutS (ksrt A.ow)).map (rowD A))])) := by
      simp only [vSl, lstAt, hc4, cutS_map]
      rfl
    have w2 : seqW (.ref (sto A A (G2 ++ E3 ++ E4)).length) (sto A A (G2 ++ E3 ++ E4 ++ [.lst ((cutS (ksrt A.ow)).map (rowD A))])) = .ok ((cutS (ksrt A.ow)).map (rowD A), fun S' => S'[(sto A A (G2 ++ E3 ++ E4)).length]? = some (.lst ((cutS (ksrt A.ow)).map (rowD A)))) (sto A A (G2 ++ E3 ++ E4 ++ [.lst ((cutS (ksrt A.ow)).map (rowD A))])) := by
      have := lstAt_app (sto A A (G2 ++ E3 ++ E4)) ((cutS (ksrt A.ow)).map (rowD A))
      have e : sto A A (G2 ++ E3 ++ E4) ++ [.lst ((cutS (ksrt A.ow)).map (rowD A))] = sto A A (G2 ++ E3 ++ E4 ++ [.lst ((cutS (ksrt A.ow)).map (rowD A))]) := rfl
      rw [e] at this
      simp only [seqW, this]
    simp only [sFor_ap, iSeq_ap, eSl_ap, eV_ap, List.getElem?_cons_zero, List.getElem?_cons_succ, eVK_s, Ou.bind_ok, oN_ap, oS_ap, eC_ap, oSK_i, w, w2, Ou.thn_ok]
    exact S5
  refine ⟨[O.lst ((ksrt A.ow).map D.str), .lst ((ksrt A.ow).map (rowD A))] ++ [.lst ((ksrt A.hd).map D.str), .lst ((ksrt A.hd).map (heldD A))] ++ E3 ++ E4 ++ [.lst ((cutS (ksrt A.ow)).map (rowD A))], ?_⟩
  have run : d_law_same (e10 none none none none none none none none) (sto A A G) = .rt (.bl true) (sto A A (G2 ++ E3 ++ E4 ++ [.lst ((cutS (ksrt A.ow)).map (rowD A))])) := by
    unfold d_law_same
    rw [seq_nx (sSet_of S1)]
    refine (seq_nx (sSet_of S2)).trans ?_
    refine (seq_nx S3).trans ?_
    refine (seq_nx S4).trans ?_
    refine (seq_nx F5).trans ?_
    simp [F_Accounts_supply, fnM, d_Accounts_supply, insAt, vFld, vFldS, vIn, vNotIn, isIn, dctAt, dctW, lstAt, keyD, ofO, vIx, vAdd, vSub, vLt, vGt, vLe, vGe, vLen, lenD, vInt, vNot, vNeg, setAll, mthK, vSetI, vDelI, isDctW, isDct, vMake, fl_total, eqD_int, ofO]
  unfold F_law_same fnM
  rw [if_pos (show [D.ref 0, D.ref 7].length = 2 from rfl)]
  have e0 : ([D.ref 0, .ref 7].map some ++ List.replicate (10 - 2) none : En) = e10 none none none none none none none none := rfl
  rw [e0, run]
  simp only []
  rw [← hG2]
  simp only [List.append_assoc]
end Lw

set_option autoImplicit false
set_option maxRecDepth 100000
set_option maxHeartbeats 4000000
set_option linter.all false
namespace Lw
open PySem PySem.Spec L2 Mi
theorem missing_eq (A M : St) (G : Sto) (n : Str) (h1 : aget A.ow n = none) (h2 : aget A.bal n = none) : ∃ E, F_law_missing [.ref 0, .str n] (sto A M G) = .ok (.bl true) (sto A M (G ++ E)) := by
  have q1 : ∀ G, F_Accounts_owner [.ref 0, .str n] (sto A M G) = .ex ⟨1, [some (.str "missing")]⟩ (sto A M G) := fun G => by
    have := owner_eq A M G n
    rw [h1] at this
    exact this
  have q2 : ∀ G, F_Accounts_balance [.ref 0, .str n] (sto A M G) = .ex ⟨1, [some (.str "missing")]⟩ (sto A M G) := fun G => by
    have := balance_eq A M G n
    rw [h2] at this
    exact this
  refine ⟨[.lst [.bl true, .bl true], .lst [.bl true, .bl true]], ?_⟩
  have e2 : (List.range (Int.toNat 2)).map (fun i => D.int (i : Nat)) = [.int 0, .int 1] := rfl
  simp [F_law_missing, fnM, d_law_missing, insAt, vFld, vFldS, vIn, vNotIn, isIn, dctAt, dctW, lstAt, keyD, ofO, vIx, vAdd, vSub, vLt, vGt, vLe, vGe, vLen, lenD, vInt, vNot, vNeg, setAll, mthK, vSetI, vDelI, isDctW, isDct, vMake, rng1, List.range_succ, forGo_cons, forGo_nil, q1, q2, tryKA, ext_LedgerError, eXis, xis_Refused, xis_ValueError, noX, clr, bmK, tyD, vAppend, eAnd, vEq, eqD, toP, toPs, SeqAt.shaped, PyData.canLay0, PyData.canLayAll0, PyData.depth, PyData.depthAll, PyData.eqv, PyData.eqvAll]
noncomputable abbrev strBody : Fs := (sSeq (sSet 3 (op2 vAdd (op2 vAdd (eC (.str "q")) (op2 vIx (eV 1) (op2 vFdiv (eV 2) (eC (.int 26))))) (op2 vIx (eV 1) (op2 vMod (eV 2) (eC (.int 26))))))
  (sIf (tsB (op2 vNotIn (eV 3) (op2 vIx (eV 0) (eC (.int 0))))) (sRet (eV 3)) sNx))
theorem two_chars (x : Str) (hx : sOk x = true) (hl : x.length ≤ 1000) (i : Int) (h0 : 0 ≤ i) (h1 : i < x.length) : ∃ cc : Str, sOk cc = true ∧ cc.length = 1 ∧ ∀ S, vIx (.str x) (.int i) S = .ok (.str cc) S := by
  obtain ⟨c, e1, e2⟩ := atI_str x hx i h0 h1 hl
  exact ⟨⟨#[c]⟩, e2, rfl, fun S => t4 x i c (by omega) e1 S⟩
theorem str_loop (A M : St) (G : Sto) : ∀ (is : List Nat), (∀ i ∈ is, i < 120) → ∀ x y : Option D, (∃ w : Str, aget M.ow w = none ∧ forGo (fun _ => True) (gN 2) strBody (is.map fun i => D.int (i : Nat)) [some (.ref 7), some (.str "abcdefghijklmnopqrstuvwxyz"), x, y] (sto A M G) = .rt (.str w) (sto A M G)) ∨
    ∃ x' y' : Option D, forGo (fun _ => True) (gN 2) strBody (is.map fun i => D.int (i : Nat)) [some (.ref 7), some (.str "abcdefghijklmnopqrstuvwxyz"), x, y] (sto A M G) = .nx [some (.ref 7), some (.str "abcdefghijklmnopqrstuvwxyz"), x', y'] (sto A M G)
  | [], _, x, y => .inr ⟨x, y, by rw [List.map_nil, forGo_nil _ _ _ _ _ True.intro]⟩
  | i :: is, h, x, y => by
    have hi := h i List.mem_cons_self
    obtain ⟨c1, o1, l1, v1⟩ := two_chars "abcdefghijklmnopqrstuvwxyz" a26.1 (by rw [a26.2]; decide) ((i : Int) / 26) (by omega) (by rw [a26.2]; omega)
    obtain ⟨c2, o2, l2, v2⟩ := two_chars "abcdefghijklmnopqrstuvwxyz" a26.1 (by rw [a26.2]; decide) ((i : Int) % 26) (by omega) (by rw [a26.2]; omega)
    have lq : ("q" : Str).length = 1 := by decide +kernel
    have a1 : ∀ S, vAdd (.str "q") (.str c1) S = .ok (.str ("q" ++ c1)) S := fun S => t5 _ _ (by rw [lq, l1]; decide) S
    have a2 : ∀ S, vAdd (.str ("q" ++ c1)) (.str c2) S = .ok (.str ("q" ++ c1 ++ c2)) S := fun S => t5 _ _ (by rw [len_app, lq, l1, l2]; decide) S
    have d1 : ∀ S, vFdiv (.int i) (.int 26) S = .ok (.int ((i : Int) / 26)) S := fun S => vFdiv_ok _ _ S (by decide) (by decide)
    have d2 : ∀ S, vMod (.int i) (.int 26) S = .ok (.int ((i : Int) % 26)) S := fun S => vMod_ok _ _ S (by decide)
    have mo : ∀ env3, op2 vIx (eV 0) (eC (.int 0)) [some (.ref 7), some (.str "abcdefghijklmnopqrstuvwxyz"), some (.int i), env3] (sto A M G) = .ok (.ref 4) (sto A M G) := fun env3 => by simp [insAt, vFld, vFldS, vIn, vNotIn, isIn, dctAt, dctW, lstAt, keyD, ofO, vIx, vAdd, vSub, vLt, vGt, vLe, vGe, vLen, lenD, vInt, vNot, vNeg, setAll, mthK, vSetI, vDelI, isDctW, isDct, vMake, atI, ixN]
    have ni : vNotIn (.str ("q" ++ c1 ++ c2)) (.ref 4) (sto A M G) = .ok (.bl (!(aget M.ow ("q" ++ c1 ++ c2)).isSome)) (sto A M G) := by simp [vNotIn, isIn, dctAt, keyD, ofO, kvs_get]
    have run : (gN 2 (.int i) [some (.ref 7), some (.str "abcdefghijklmnopqrstuvwxyz"), x, y] (sto A M G)).seq strBody = if aget M.ow ("q" ++ c1 ++ c2) = none then .rt (.str ("q" ++ c1 ++ c2)) (sto A M G) else .nx [some (.ref 7), some (.str "abcdefghijklmnopqrstuvwxyz"), some (.int i), some (.str ("q" ++ c1 ++ c2))] (sto A M G) := by
      simp only [gN_ap, Os.seq_nx, sSeq_ap, sSet_ap, op2_ap, eV_ap, eC_ap, List.set_cons_succ, List.set_cons_zero, List.getElem?_cons_succ, List.getElem?_cons_zero, eVK_s, Ou.bind_ok, Ou.thn_ok, d1, d2, v1, v2, a1, a2, sIf_ap, tsB_ap]
      rw [show vIx (.ref 7) (.int 0) (sto A M G) = .ok (.ref 4) (sto A M G) by simp [insAt, vFld, vFldS, vIn, vNotIn, isIn, dctAt, dctW, lstAt, keyD, ofO, vIx, vAdd, vSub, vLt, vGt, vLe, vGe, vLen, lenD, vInt, vNot, vNeg, setAll, mthK, vSetI, vDelI, isDctW, isDct, vMake, atI, ixN]]
      simp only [Ou.bind_ok, ni, bK_b, Ou.thn_ok]
      cases aget M.ow ("q" ++ c1 ++ c2) with
      | none => simp
      | some c => simp
    rw [List.map_cons, forGo_cons _ _ _ _ _ _ _ True.intro, run]
    by_cases e : aget M.ow ("q" ++ c1 ++ c2) = none
    · exact .inl ⟨_, e, by rw [if_pos e]⟩
    · rw [if_neg e]
      exact str_loop A M G is (fun j hj => h j (List.mem_cons_of_mem _ hj)) _ _
theorem strange_eq (A M : St) (G : Sto) (hne : aget M.ow "" = none) : ∃ w : Str, aget M.ow w = none ∧ F_law_strange [.ref 7] (sto A M G) = .ok (.str w) (sto A M G) := by
  rcases str_loop A M G (List.range 120) (fun i hi => List.mem_range.mp hi) none none with ⟨w, h1, h2⟩ | ⟨x, y, h2⟩
  · refine ⟨w, h1, ?_⟩
    unfold F_law_strange fnM
    rw [if_pos (show [D.ref 7].length = 1 from rfl), show ([D.ref 7].map some ++ List.replicate (4 - 1) none : En) = [some (.ref 7), none, none, none] from rfl]
    unfold d_law_strange
    rw [seq_nx (env1 := [some (.ref 7), some (.str "abcdefghijklmnopqrstuvwxyz"), none, none]) (S1 := sto A M G) (by simp)]
    simp only [sSeq_ap, sFor_ap, iRange1_ap, aC_ap, eC_ap, aN_ap, Ou.bind_ok, rng1]
    rw [if_pos (by decide)]
    simp only [Ou.thn_ok]
    rw [show (120 : Int).toNat = 120 from rfl, h2]
    rfl
  · refine ⟨"", hne, ?_⟩
    unfold F_law_strange fnM
    rw [if_pos (show [D.ref 7].length = 1 from rfl), show ([D.ref 7].map some ++ List.replicate (4 - 1) none : En) = [some (.ref 7), none, none, none] from rfl]
    unfold d_law_strange
    rw [seq_nx (env1 := [some (.ref 7), some (.str "abcdefghijklmnopqrstuvwxyz"), none, none]) (S1 := sto A M G) (by simp)]
    simp only [sSeq_ap, sFor_ap, iRange1_ap, aC_ap, eC_ap, aN_ap, Ou.bind_ok, rng1]
    rw [if_pos (by decide)]
    simp only [Ou.thn_ok]
    rw [show (120 : Int).toNat = 120 from rfl, h2]
    rfl
theorem step_err {A : St} {o : Op} {e : Str} (h : aStep A o = .error e) : sOk e = true ∧ e ≠ "" := by
  have P : ∀ r : Str, (r = "missing" ∨ r = "owner" ∨ r = "funds" ∨ r = "taken" ∨ r = "full" ∨ r = "busy" ∨ r = "mint" ∨ r = "limit") → sOk r = true ∧ r ≠ "" := by
    rintro r (rfl | rfl | rfl | rfl | rfl | rfl | rfl | rfl) <;> exact ⟨by decide +kernel, by decide +kernel⟩
  refine P e ?_
  have paym : ∀ {c a : Int} {s d e : Str}, aPaym A c s d a = .error e → e = "missing" ∨ e = "owner" ∨ e = "funds" := fun h => paym_err h
  unfold aStep at h
  split at h
  · unfold aCreate at h
    split at h
    · cases h; simp
    · split at h <;> cases h
      simp
  · split at h
    · unfold aClose at h
      split at h
      · cases h; simp
      · split at h
        · split at h
          · split at h <;> cases h
            simp
          · cases h; simp
        · cases h; simp
    · split at h
      · unfold aIssue at h
        split at h
        · split at h
          · cases h; simp
          · split at h <;> cases h
            simp
        · cases h; simp
      · split at h
        · unfold aBurn at h
          split at h
          · rename_i e' hf
            cases h
            unfold aFund at hf
            split at hf
            · cases hf; simp
            · split at hf
              · split at hf <;> cases hf
                simp
              · cases hf; simp
          · cases h
        · split at h
          · unfold aPay at h
            split at h
            · rename_i e' hf
              cases h
              rcases paym hf with rfl | rfl | rfl <;> simp
            · cases h
          · split at h
            · unfold aHold at h
              split at h
              · rename_i e' hf
                cases h
                rcases paym hf with rfl | rfl | rfl <;> simp
              · split at h
                · cases h; simp
                · split at h <;> cases h
                  simp
            · split at h
              · unfold aSettle at h
                split at h
                · cases h; simp
                · split at h <;> cases h
                  simp
              · unfold aRelease at h
                split at h
                · cases h; simp
                · split at h <;> cases h
                  simp
end Lw

set_option autoImplicit false
set_option maxRecDepth 100000
set_option maxHeartbeats 4000000
set_option linter.all false
namespace Lw
open PySem PySem.Spec L2 Mi
theorem vNe_same (S : Sto) (x : Str) (h : sOk x = true) : vNe (.str x) (.str x) S = .ok (.bl false) S := by
  rw [vNe_str S x x h h]
  simp
theorem forGo_step {chk : Sto → Prop} {gf : Gf} {b : Fs} {d : D} {ds : List D} {env env1 env2 : En} {S S1 S2 : Sto} (h : chk S) (hg : gf d env S = .nx env1 S1) (hb : b env1 S1 = .nx env2 S2) : forGo chk gf b (d :: ds) env S = forGo chk gf b ds env2 S2 := by
  rw [forGo_cons _ _ _ _ _ _ _ h, hg, Os.seq_nx, hb]
/-! ### one operation of the first loop -/
abbrev e7 (ns : List Int) (k n o u : Option D) : En := [some (.frl (ns.map D.int)), some (.ref 0), some (.ref 7), k, n, o, u]
theorem do_op (A A' : St) (G : Sto) (o : Op) (I : Inv A) (ho : OpOk o) (hr : aStep A o = .ok A') (ns : List Int) (k n u : Option D) :
    (sSeq (sIf (tsB (op2 vNe (eCall 2 F_law_call (aC (eV 1) (aC (eV 5) aN))) (eC (.str "")))) (sRet (eC (.bl false))) sNx)
      (sDrop (eCall 2 F_law_apply (aC (eV 2) (aC (eV 5) aN))))) (e7 ns k n (some o.d) u) (sto A A G) = .nx (e7 ns k n (some o.d) u) (sto A' A' G) := by
  have c := call_eq A A G o I.bal I.hin I.fit ho I.hs
  rw [hr] at c
  have a := mapply_eq A' A A' G o I ho hr
  have z := fun S => vNe_same S "" sk8
  simp only [sSeq_ap, sIf_ap, tsB_ap, op2_ap, eCall_ap, aC_ap, aN_ap, eV_ap, eC_ap, List.getElem?_cons_succ, List.getElem?_cons_zero, eVK_s, Ou.bind_ok, List.length_cons, List.length_nil, Nat.zero_add, Nat.reduceAdd, if_true, c, Told, z, bK_b, Ou.thn_ok, ifK_f, sNx_ap, Os.seq_nx, sDrop_ap, a]
noncomputable abbrev preBody : Fs := (sSeq (sSet 4 (op2 vAdd (op2 vAdd (eC (.str "z")) (op2 vIx (eC (.str "abcdefghij")) (op2 vFdiv (eV 3) (eC (.int 10))))) (op2 vIx (eC (.str "abcdefghij")) (op2 vMod (eV 3) (eC (.int 10))))))
  (sFor (iSeq (eLst (aC (eTup (aC (eC (.str "create")) (aC (op1 vNeg (eC (.int 2))) (aC (eV 4) (aC (eC (.str "")) (aC (eC (.int 0)) (aC (eC (.str "")) aN))))))) (aC (eTup (aC (eC (.str "hold")) (aC (op1 vNeg (eC (.int 2))) (aC (eV 4) (aC (eV 4) (aC (eC (.int 0)) (aC (eV 4) aN))))))) aN)))) (gN 5) (sSeq (sIf (tsB (op2 vNe (eCall 2 F_law_call (aC (eV 1) (aC (eV 5) aN))) (eC (.str "")))) (sRet (eC (.bl false))) sNx)
  (sDrop (eCall 2 F_law_apply (aC (eV 2) (aC (eV 5) aN)))))))
theorem a10 : sOk "abcdefghij" = true ∧ ("abcdefghij" : Str).length = 10 := by decide +kernel
def nm (k : Nat) : Str := "z" ++ ⟨#[97 + k / 10]⟩ ++ ⟨#[97 + k % 10]⟩
theorem nm_inj {j k : Nat} (h : nm j = nm k) : j = k := by
  unfold nm at h
  have h1 := congrArg (fun x : Str => x.cps.toList) h
  have e : ∀ m, (("z" : Str) ++ ⟨#[97 + m / 10]⟩ ++ ⟨#[97 + m % 10]⟩ : Str).cps.toList = ("z" : Str).cps.toList ++ [97 + m / 10] ++ [97 + m % 10] := fun m => by
    show (("z" : Str).cps ++ #[97 + m / 10] ++ #[97 + m % 10]).toList = _
    simp
  simp only [e, List.append_assoc] at h1
  have h2 := List.append_cancel_left h1
  simp at h2
  omega
theorem nm_ok : ∀ k < 100, sOk (nm k) = true ∧ nm k ≠ "" ∧ (∀ S, vAdd (.str "z") (.str ⟨#[97 + k / 10]⟩) S = .ok (.str ("z" ++ ⟨#[97 + k / 10]⟩)) S) ∧ (∀ S, vAdd (.str ("z" ++ ⟨#[97 + k / 10]⟩)) (.str ⟨#[97 + k % 10]⟩) S = .ok (.str (nm k)) S) := by
  intro k hk
  have lz : ("z" : Str).length = 1 := by decide +kernel
  have l1 : ∀ c : Nat, (Str.mk #[c]).length = 1 := fun _ => rfl
  have oz : sOk "z" = true := by decide +kernel
  have o1 : ∀ c : Nat, c < 1000 → sOk ⟨#[c]⟩ = true := fun c hc => by
    unfold sOk
    simp
    omega
  refine ⟨?_, ?_, fun S => t5 _ _ (by rw [lz, l1]; decide) S, fun S => t5 _ _ (by rw [len_app, lz, l1, l1]; decide) S⟩
  · unfold nm
    exact sOk_app (sOk_app oz (o1 _ (by omega))) (o1 _ (by omega))
  · refine w_ne ?_
    unfold nm
    rw [len_app, len_app, lz, l1, l1]
    decide
theorem a10_at : ∀ j < 10, ∀ S, vIx (.str "abcdefghij") (.int (j : Nat)) S = .ok (.str ⟨#[97 + j]⟩) S := by
  intro j hj S
  have h : ∀ j < 10, atI ("abcdefghij" : Str).cps.toList ((j : Nat) : Int) = some (97 + j) := by decide +kernel
  exact t4 _ _ _ (by rw [a10.2]; decide) (h j hj) S
structure Pre (A : St) (k : Nat) : Prop where
  inv : Inv A
  lo : A.ow.length = k
  lh : A.hd.length = k
  ko : ∀ n ∈ A.ow.map (·.1), ∃ j < k, n = nm j
  kh : ∀ n ∈ A.hd.map (·.1), ∃ j < k, n = nm j
theorem pre_step (A : St) (k : Nat) (hk : k < 100) (P : Pre A k) (G : Sto) (ns : List Int) (n o u : Option D) : ∃ (A' : St) (E : Sto) (n' o' : Option D), Pre A' (k + 1) ∧
    (gN 3 (.int k) (e7 ns none n o u) (sto A A G)).seq preBody = .nx (e7 ns (some (.int k)) n' o' u) (sto A' A' (G ++ E)) ∧ ∀ x : Option D, (gN 3 (.int k) (e7 ns x n o u) (sto A A G)).seq preBody = .nx (e7 ns (some (.int k)) n' o' u) (sto A' A' (G ++ E)) := by
  obtain ⟨k1, k2, k3, k4⟩ := nm_ok k hk
  have n1 : aget A.ow (nm k) = none := aget_none.mpr fun h => by
    obtain ⟨j, hj, e⟩ := P.ko _ h
    have := nm_inj e
    omega
  have n2 : aget A.hd (nm k) = none := aget_none.mpr fun h => by
    obtain ⟨j, hj, e⟩ := P.kh _ h
    have := nm_inj e
    omega
  have n3 : aget A.bal (nm k) = none := by
    have := P.inv.bal (nm k)
    rw [n1] at this
    cases e : aget A.bal (nm k) with
    | none => rfl
    | some v => rw [e] at this; cases this
  let o1 : Op := ⟨"create", -2, nm k, "", 0, ""⟩
  let o2 : Op := ⟨"hold", -2, nm k, nm k, 0, nm k⟩
  have ho1 : OpOk o1 := ⟨sk1, k1, sk8, sk8⟩
  have ho2 : OpOk o2 := ⟨sk6, k1, k1, k1⟩
  let A1 : St := { A with ow := aput A.ow (nm k) (-2), bal := aput A.bal (nm k) 0 }
  have s1 : aStep A o1 = .ok A1 := by
    have : ¬ 100 ≤ (A.ow.length : Int) := by rw [P.lo]; omega
    simp [aStep, o1, aCreate, n1, this, A1]
  have I1 : Inv A1 := step_inv P.inv ho1 k2 s1
  have g1 : aget A1.ow (nm k) = some (-2) := by
    show aget (aput A.ow (nm k) (-2)) (nm k) = _
    rw [aput_new n1, aget_app, n1]
    simp
  have g2 : aget A1.bal (nm k) = some 0 := by
    show aget (aput A.bal (nm k) 0) (nm k) = _
    rw [aput_new n3, aget_app, n3]
    simp
  have g3 : A1.b (nm k) = 0 := by unfold St.b; rw [g2]; rfl
  have gh : A1.hd = A.hd := rfl
  let A2 : St := { A1 with bal := aput A1.bal (nm k) (A1.b (nm k) - 0), hd := aput A1.hd (nm k) (nm k, nm k, 0) }
  have s2 : aStep A1 o2 = .ok A2 := by
    have h1 : ¬ 100 ≤ (A1.hd.length : Int) := by rw [gh, P.lh]; omega
    have h2 : aPaym A1 (-2) (nm k) (nm k) 0 = .ok A1 := by simp [aPaym, aFund, g1, g3]
    have h3 : aget A1.hd (nm k) = none := n2
    simp [aStep, o2, aHold, h2, h3, h1, A2]
  have I2 : Inv A2 := step_inv I1 ho2 k2 s2
  have e1 : A2.ow = A.ow ++ [(nm k, -2)] := aput_new n1
  have e2 : A2.hd = A.hd ++ [(nm k, (nm k, nm k, 0))] := aput_new n2
  have PP : Pre A2 (k + 1) := by
    refine ⟨I2, by rw [e1]; simp [P.lo], by rw [e2]; simp [P.lh], fun n hn => ?_, fun n hn => ?_⟩
    · rw [e1, List.map_append, List.mem_append] at hn
      rcases hn with h | h
      · obtain ⟨j, hj, e⟩ := P.ko n h
        exact ⟨j, by omega, e⟩
      · exact ⟨k, by omega, by simpa using h⟩
    · rw [e2, List.map_append, List.mem_append] at hn
      rcases hn with h | h
      · obtain ⟨j, hj, e⟩ := P.kh n h
        exact ⟨j, by omega, e⟩
      · exact ⟨k, by omega, by simpa using h⟩
  have run : ∀ x : Option D, (gN 3 (.int k) (e7 ns x n o u) (sto A A G)).seq preBody = .nx (e7 ns (some (.int k)) (some (.str (nm k))) (some o2.d) u) (sto A2 A2 (G ++ [.lst [o1.d, o2.d]])) := fun x => by
    have w1 := a10_at (k / 10) (by omega)
    have w2 := a10_at (k % 10) (by omega)
    have d1 : ∀ S, vFdiv (.int k) (.int 10) S = .ok (.int ((k / 10 : Nat) : Int)) S := fun S => vFdiv_ok _ _ S (by decide) (by decide)
    have d2 : ∀ S, vMod (.int k) (.int 10) S = .ok (.int ((k % 10 : Nat) : Int)) S := fun S => vMod_ok _ _ S (by decide)
    have ng : ∀ S, vNeg (.int 2) S = .ok (.int (-2)) S := fun S => rfl
    have st1 : sSet 4 (op2 vAdd (op2 vAdd (eC (.str "z")) (op2 vIx (eC (.str "abcdefghij")) (op2 vFdiv (eV 3) (eC (.int 10))))) (op2 vIx (eC (.str "abcdefghij")) (op2 vMod (eV 3) (eC (.int 10))))) (e7 ns (some (.int k)) n o u) (sto A A G) = .nx (e7 ns (some (.int k)) (some (.str (nm k))) o u) (sto A A G) := by
      simp only [sSet_ap, op2_ap, eV_ap, eC_ap, List.getElem?_cons_succ, List.getElem?_cons_zero, eVK_s, Ou.bind_ok, Ou.thn_ok, d1, d2, w1, w2, k3, k4, List.set_cons_succ, List.set_cons_zero]
    have hl : ([o1.d, o2.d] : List D).length ≤ 16777216 := by show 2 ≤ 16777216; decide
    have b1 := do_op A A1 (G ++ [.lst [o1.d, o2.d]]) o1 P.inv ho1 s1 ns (some (.int k)) (some (.str (nm k))) u
    have b2 := do_op A1 A2 (G ++ [.lst [o1.d, o2.d]]) o2 I1 ho2 s2 ns (some (.int k)) (some (.str (nm k))) u
    have hc : ∀ B C : St, (sto B C (G ++ [.lst [o1.d, o2.d]]))[(sto A A G).length]? = some (.lst [o1.d, o2.d]) := fun B C => by simp
    rw [gN_ap, Os.seq_nx]
    refine (seq_nx st1).trans ?_
    simp only [sFor_ap, iSeq_ap, eLst_ap, eTup_ap, op1_ap, aC_ap, aN_ap, eV_ap, eC_ap, ng, List.getElem?_cons_succ, List.getElem?_cons_zero, eVK_s, Ou.bind_ok]
    rw [if_pos (by show 6 ≤ 16777216; decide)]
    simp only [Ou.bind_ok]
    rw [if_pos (by show 6 ≤ 16777216; decide)]
    simp only [Ou.bind_ok]
    rw [if_pos (by show 2 ≤ 16777216; decide)]
    simp only [Ou.bind_ok]
    have sq : seqW (.ref (sto A A G).length) (sto A A (G ++ [.lst [o1.d, o2.d]])) = .ok ([o1.d, o2.d], fun S' => S'[(sto A A G).length]? = some (.lst [o1.d, o2.d])) (sto A A (G ++ [.lst [o1.d, o2.d]])) := by
      have := lstAt_app (sto A A G) [o1.d, o2.d]
      simp only [seqW]
      rw [show sto A A (G ++ [.lst [o1.d, o2.d]]) = sto A A G ++ [.lst [o1.d, o2.d]] from rfl, this]
    refine (congrArg (fun z : Ou Wk => z.thn _ _) sq).trans ?_
    simp only [Ou.thn_ok]
    refine (forGo_step (hc A A) (gN_ap ..) b1).trans ?_
    refine (forGo_step (hc A1 A1) (gN_ap ..) b2).trans ?_
    rw [forGo_nil _ _ _ _ _ (hc A2 A2)]
  exact ⟨A2, _, _, _, PP, run none, run⟩
theorem pre_loop (ns : List Int) (u : Option D) : ∀ (m k : Nat) (A : St) (G : Sto) (x n o : Option D), k + m ≤ 100 → Pre A k → ∃ (A' : St) (E : Sto) (x' n' o' : Option D), Inv A' ∧
    forGo (fun _ => True) (gN 3) preBody ((List.range' k m).map fun i => D.int (i : Nat)) (e7 ns x n o u) (sto A A G) = .nx (e7 ns x' n' o' u) (sto A' A' (G ++ E))
  | 0, k, A, G, x, n, o, _, P => ⟨A, [], x, n, o, P.inv, by simp [forGo_nil]⟩
  | m + 1, k, A, G, x, n, o, h, P => by
    obtain ⟨A1, E1, n1, o1, P1, _, run⟩ := pre_step A k (by omega) P G ns n o u
    obtain ⟨A2, E2, x2, n2, o2, I2, L⟩ := pre_loop ns u m (k + 1) A1 (G ++ E1) (some (.int k)) n1 o1 (by omega) P1
    refine ⟨A2, E1 ++ E2, x2, n2, o2, I2, ?_⟩
    rw [List.range'_succ, List.map_cons, forGo_cons _ _ _ _ _ _ _ True.intro, run x]
    simp only []
    rw [L, List.append_assoc]
noncomputable abbrev mainBody : Fs := (sSeq (sSet 5 (eCall 2 F_law_op (aC (op2 vIx (eV 0) (eV 3)) (aC (eV 3) aN))))
  (sSeq (sSet 6 (eCall 2 F_law_reason (aC (eV 2) (aC (eV 5) aN))))
  (sSeq (sIf (tsB (op2 vNe (eCall 2 F_law_call (aC (eV 1) (aC (eV 5) aN))) (eV 6))) (sRet (eC (.bl false))) sNx)
  (sSeq (sIf (tsB (op2 vEq (eV 6) (eC (.str "")))) (sDrop (eCall 2 F_law_apply (aC (eV 2) (aC (eV 5) aN)))) sNx)
  (sIf (tNotF (tsB (eCall 2 F_law_same (aC (eV 1) (aC (eV 2) aN))))) (sRet (eC (.bl false))) sNx)))))
theorem main_step (ns : List Int) (i : Nat) (hi : i < ns.length) (A : St) (G : Sto) (I : Inv A) (n o u : Option D) : ∃ (A' : St) (E : Sto) (o' u' : Option D), Inv A' ∧ mainBody (e7 ns (some (.int i)) n o u) (sto A A G) = .nx (e7 ns (some (.int i)) n o' u') (sto A' A' (G ++ E)) := by
  obtain ⟨op, d1, ho, hne⟩ := op_eq ns[i] i
  obtain ⟨E1, d1⟩ := d1 (sto A A G)
  have d1' : F_law_op [.int ns[i], .int i] (sto A A G) = .ok op.d (sto A A (G ++ E1)) := d1
  obtain ⟨E2, d2⟩ := mreason_eq A A (G ++ E1) op I ho
  have d3 := call_eq A A (G ++ E1 ++ E2) op I.bal I.hin I.fit ho I.hs
  have ix : ∀ S, vIx (.frl (ns.map D.int)) (.int i) S = .ok (.int ns[i]) S := fun S => by
    have e : atI (ns.map D.int) (i : Int) = some (.int ns[i]) := by
      unfold atI
      have e1 : ixN (ns.map D.int).length (i : Int) = some i := by
        unfold ixN
        have h1 : ¬ (i : Int) < 0 := by omega
        simp [h1, hi]
      rw [e1]
      simp [hi]
    unfold vIx
    simp only [e]
  have st1 : sSet 5 (eCall 2 F_law_op (aC (op2 vIx (eV 0) (eV 3)) (aC (eV 3) aN))) (e7 ns (some (.int i)) n o u) (sto A A G) = .nx (e7 ns (some (.int i)) n (some op.d) u) (sto A A (G ++ E1)) := by
    simp only [sSet_ap, eCall_ap, aC_ap, aN_ap, op2_ap, eV_ap, List.getElem?_cons_succ, List.getElem?_cons_zero, eVK_s, Ou.bind_ok, ix, List.length_cons, List.length_nil, Nat.zero_add, Nat.reduceAdd, if_true, d1', Ou.thn_ok, List.set_cons_succ, List.set_cons_zero]
  have st2 : sSet 6 (eCall 2 F_law_reason (aC (eV 2) (aC (eV 5) aN))) (e7 ns (some (.int i)) n (some op.d) u) (sto A A (G ++ E1)) = .nx (e7 ns (some (.int i)) n (some op.d) (some (.str (msg (aStep A op))))) (sto A A (G ++ E1 ++ E2)) := by
    simp only [sSet_ap, eCall_ap, aC_ap, aN_ap, eV_ap, List.getElem?_cons_succ, List.getElem?_cons_zero, eVK_s, Ou.bind_ok, List.length_cons, List.length_nil, Nat.zero_add, Nat.reduceAdd, if_true, d2, Ou.thn_ok, List.set_cons_succ, List.set_cons_zero]
  cases hr : aStep A op with
  | error e =>
    obtain ⟨o1, o2⟩ := step_err hr
    rw [hr] at d3 st2
    obtain ⟨E3, d5⟩ := same_eq A (G ++ E1 ++ E2) I
    have z := fun S => vNe_same S e o1
    have z2 : ∀ S, vEq (.str e) (.str "") S = .ok (.bl false) S := fun S => by rw [vEq_str S e "" o1 sk8]; simp [o2]
    have st3 : sIf (tsB (op2 vNe (eCall 2 F_law_call (aC (eV 1) (aC (eV 5) aN))) (eV 6))) (sRet (eC (.bl false))) sNx (e7 ns (some (.int i)) n (some op.d) (some (.str e))) (sto A A (G ++ E1 ++ E2)) = .nx (e7 ns (some (.int i)) n (some op.d) (some (.str e))) (sto A A (G ++ E1 ++ E2)) := by
      simp only [sIf_ap, tsB_ap, op2_ap, eCall_ap, aC_ap, aN_ap, eV_ap, List.getElem?_cons_succ, List.getElem?_cons_zero, eVK_s, Ou.bind_ok, List.length_cons, List.length_nil, Nat.zero_add, Nat.reduceAdd, if_true, d3, Told, z, bK_b, Ou.thn_ok, ifK_f, sNx_ap]
    have st4 : sIf (tsB (op2 vEq (eV 6) (eC (.str "")))) (sDrop (eCall 2 F_law_apply (aC (eV 2) (aC (eV 5) aN)))) sNx (e7 ns (some (.int i)) n (some op.d) (some (.str e))) (sto A A (G ++ E1 ++ E2)) = .nx (e7 ns (some (.int i)) n (some op.d) (some (.str e))) (sto A A (G ++ E1 ++ E2)) := by
      simp only [sIf_ap, tsB_ap, op2_ap, eV_ap, eC_ap, List.getElem?_cons_succ, List.getElem?_cons_zero, eVK_s, Ou.bind_ok, z2, bK_b, Ou.thn_ok, ifK_f, sNx_ap]
    refine ⟨A, E1 ++ E2 ++ E3, some op.d, some (.str e), I, ?_⟩
    refine (seq_nx st1).trans ((seq_nx st2).trans ((seq_nx st3).trans ((seq_nx st4).trans ?_)))
    simp only [sIf_ap, tNotF_ap, tsB_ap, eCall_ap, aC_ap, aN_ap, eV_ap, List.getElem?_cons_succ, List.getElem?_cons_zero, eVK_s, Ou.bind_ok, List.length_cons, List.length_nil, Nat.zero_add, Nat.reduceAdd, if_true, d5, bK_b, Bool.not_true, Ou.thn_ok, ifK_f, sNx_ap]
    simp only [List.append_assoc]
  | ok A' =>
    have I' := step_inv I ho hne hr
    rw [hr] at d3 st2
    obtain ⟨E3, d5⟩ := same_eq A' (G ++ E1 ++ E2) I'
    have d4 := mapply_eq A' A A' (G ++ E1 ++ E2) op I ho hr
    have z := fun S => vNe_same S "" sk8
    have z2 : ∀ S, vEq (.str "") (.str "") S = .ok (.bl true) S := fun S => by rw [vEq_str S "" "" sk8 sk8]; simp
    have st3 : sIf (tsB (op2 vNe (eCall 2 F_law_call (aC (eV 1) (aC (eV 5) aN))) (eV 6))) (sRet (eC (.bl false))) sNx (e7 ns (some (.int i)) n (some op.d) (some (.str ""))) (sto A A (G ++ E1 ++ E2)) = .nx (e7 ns (some (.int i)) n (some op.d) (some (.str ""))) (sto A' A (G ++ E1 ++ E2)) := by
      simp only [sIf_ap, tsB_ap, op2_ap, eCall_ap, aC_ap, aN_ap, eV_ap, List.getElem?_cons_succ, List.getElem?_cons_zero, eVK_s, Ou.bind_ok, List.length_cons, List.length_nil, Nat.zero_add, Nat.reduceAdd, if_true, d3, Told, z, bK_b, Ou.thn_ok, ifK_f, sNx_ap]
    have st4 : sIf (tsB (op2 vEq (eV 6) (eC (.str "")))) (sDrop (eCall 2 F_law_apply (aC (eV 2) (aC (eV 5) aN)))) sNx (e7 ns (some (.int i)) n (some op.d) (some (.str ""))) (sto A' A (G ++ E1 ++ E2)) = .nx (e7 ns (some (.int i)) n (some op.d) (some (.str ""))) (sto A' A' (G ++ E1 ++ E2)) := by
      simp only [sIf_ap, tsB_ap, op2_ap, eV_ap, eC_ap, List.getElem?_cons_succ, List.getElem?_cons_zero, eVK_s, Ou.bind_ok, z2, bK_b, Ou.thn_ok, ifK_t, sDrop_ap, eCall_ap, aC_ap, aN_ap, List.length_cons, List.length_nil, Nat.zero_add, Nat.reduceAdd, if_true, d4]
    refine ⟨A', E1 ++ E2 ++ E3, some op.d, some (.str ""), I', ?_⟩
    refine (seq_nx st1).trans ((seq_nx st2).trans ((seq_nx st3).trans ((seq_nx st4).trans ?_)))
    simp only [sIf_ap, tNotF_ap, tsB_ap, eCall_ap, aC_ap, aN_ap, eV_ap, List.getElem?_cons_succ, List.getElem?_cons_zero, eVK_s, Ou.bind_ok, List.length_cons, List.length_nil, Nat.zero_add, Nat.reduceAdd, if_true, d5, bK_b, Bool.not_true, Ou.thn_ok, ifK_f, sNx_ap]
    simp only [List.append_assoc]
theorem main_loop (ns : List Int) : ∀ (is : List Nat), (∀ i ∈ is, i < ns.length) → ∀ (A : St) (G : Sto) (x n o u : Option D), Inv A → ∃ (A' : St) (E : Sto) (x' o' u' : Option D), Inv A' ∧
    forGo (fun _ => True) (gN 3) mainBody (is.map fun i => D.int (i : Nat)) (e7 ns x n o u) (sto A A G) = .nx (e7 ns x' n o' u') (sto A' A' (G ++ E))
  | [], _, A, G, x, n, o, u, I => ⟨A, [], x, o, u, I, by simp [forGo_nil]⟩
  | i :: is, h, A, G, x, n, o, u, I => by
    obtain ⟨A1, E1, o1, u1, I1, st⟩ := main_step ns i (h i List.mem_cons_self) A G I n o u
    obtain ⟨A2, E2, x2, o2, u2, I2, L⟩ := main_loop ns is (fun j hj => h j (List.mem_cons_of_mem _ hj)) A1 (G ++ E1) (some (.int i)) n o1 u1 I1
    refine ⟨A2, E1 ++ E2, x2, o2, u2, I2, ?_⟩
    rw [List.map_cons]
    refine (forGo_step (S1 := sto A A G) (env1 := e7 ns (some (.int i)) n o u) True.intro (gN_ap ..) st).trans ?_
    rw [L, List.append_assoc]
end Lw

set_option autoImplicit false
set_option maxRecDepth 100000
set_option maxHeartbeats 4000000
set_option linter.all false
namespace Lw
open PySem PySem.Spec L2 Mi
def A0 : St := ⟨[], [], [], 0⟩
theorem inv0 : Inv A0 := ⟨by decide, by decide, by decide, List.nodup_nil, rfl, List.nodup_nil, fun k s d a h => (nomatch h), fun k h => (nomatch h), fun p h => (nomatch h), rfl, rfl⟩
theorem pre0 : Pre A0 0 := ⟨inv0, rfl, rfl, fun n h => (nomatch h), fun n h => (nomatch h)⟩
theorem rng_ok (n : Int) (h0 : 0 ≤ n) (h1 : n ≤ 1000) (S : Sto) : rng1 [.int n] S = .ok ((List.range n.toNat).map fun i => D.int (i : Nat), fun _ => True) S := by
  show (if _ then _ else _) = _
  rw [if_pos (by omega)]
theorem st1 (ns : List Int) : sSet 1 (eMake 2 4 0 F_Accounts_init aN) [some (.frl (ns.map D.int)), none, none, none, none, none, none] [] = .nx [some (.frl (ns.map D.int)), some (.ref 0), none, none, none, none, none] [.ins 2 [some (.ref 1), some (.ref 2), some (.ref 3), some (.int 0)], .dct [], .dct [], .dct []] := by
  simp [vMake, F_Accounts_init, fnM, d_Accounts_init, insAt, vFld, vFldS, vIn, vNotIn, isIn, dctAt, dctW, lstAt, keyD, ofO, vIx, vAdd, vSub, vLt, vGt, vLe, vGe, vLen, lenD, vInt, vNot, vNeg, setAll, mthK, vSetI, vDelI, isDctW, isDct, vMake, fl_owners, fl_balances, fl_holds, fl_total]
theorem st2 (ns : List Int) : sSet 2 (eLst (aC eDnew (aC eDnew (aC eDnew aN)))) [some (.frl (ns.map D.int)), some (.ref 0), none, none, none, none, none] [.ins 2 [some (.ref 1), some (.ref 2), some (.ref 3), some (.int 0)], .dct [], .dct [], .dct []] = .nx (e7 ns none none none none) (sto A0 A0 []) := by
  simp [A0, kvs]
theorem st3 (ns : List Int) : sIf (tsB (op2 vNe (eLst (aC (eC (.int 1000000000000000)) (aC (eC (.int 100)) (aC (eC (.int 100)) aN)))) (eLst (aC (op2 vPow (eC (.int 10)) (eC (.int 15))) (aC (eC (.int 100)) (aC (eC (.int 100)) aN)))))) (sRet (eC (.bl false))) sNx (e7 ns none none none none) (sto A0 A0 []) = .nx (e7 ns none none none none) (sto A0 A0 [.lst [.int 1000000000000000, .int 100, .int 100], .lst [.int 1000000000000000, .int 100, .int 100]]) := by
  simp [vPow, vNe, eqD, toP, toPs, SeqAt.shaped, PyData.canLay0, PyData.canLayAll0, PyData.depth, PyData.depthAll, PyData.eqv, PyData.eqvAll, ofO]
theorem len63 (ns : List Int) : ∀ S, vLen [.frl (ns.map D.int)] S = .ok (.int ns.length) S := fun S => by simp [vLen, lenD]
theorem st4 (ns : List Int) (G : Sto) : ∃ (A' : St) (E : Sto) (x' n' o' : Option D), Inv A' ∧ sIf (tAndF (tsB (op2 vGt (opS vLen (aC (eV 0) aN)) (eC (.int 0)))) (tsB (op2 vEq (op2 vMod (opS vInt (aC (op2 vIx (eV 0) (eC (.int 0))) aN)) (eC (.int 6))) (eC (.int 5))))) (sFor (iRange1 (aC (op2 vAdd (eC (.int 98)) (op2 vMod (op2 vFdiv (opS vInt (aC (op2 vIx (eV 0) (eC (.int 0))) aN)) (eC (.int 6))) (eC (.int 3)))) aN)) (gN 3) preBody) sNx (e7 ns none none none none) (sto A0 A0 G) = .nx (e7 ns x' n' o' none) (sto A' A' (G ++ E)) := by
  have len := len63 ns
  cases ns with
  | nil =>
    refine ⟨A0, [], none, none, none, inv0, ?_⟩
    simp [vLen, lenD, vGt]
  | cons c r =>
    by_cases h5 : c % 6 = 5
    · obtain ⟨A', E, x', n', o', I', L⟩ := pre_loop (c :: r) none (98 + c / 6 % 3).toNat 0 A0 G none none none (by omega) pre0
      refine ⟨A', E, x', n', o', I', ?_⟩
      have hr := rng_ok (98 + c / 6 % 3) (by omega) (by omega) (sto A0 A0 G)
      rw [← List.range_eq_range'] at L
      have hl : (0 : Int) < ((c :: r).length : Int) := by simp
      have lenc : ∀ S, vLen [.frl ((c :: r).map D.int)] S = .ok (.int (c :: r).length) S := len
      have gt : ∀ S, vGt (.int ((c :: r).length : Int)) (.int 0) S = .ok (.bl true) S := fun S => by
        show Ou.ok (D.bl (decide _)) S = _
        rw [decide_eq_true hl]
      have ix : ∀ S, vIx (.frl ((c :: r).map D.int)) (.int 0) S = .ok (.int c) S := fun S => by simp [vIx, atI, ixN]
      have m6 : ∀ S, vMod (.int c) (.int 6) S = .ok (.int 5) S := fun S => by rw [vMod_ok _ _ S (by decide), h5]
      have d6 : ∀ S, vFdiv (.int c) (.int 6) S = .ok (.int (c / 6)) S := fun S => vFdiv_ok _ _ S (by decide) (by decide)
      have m3 : ∀ S, vMod (.int (c / 6)) (.int 3) S = .ok (.int (c / 6 % 3)) S := fun S => vMod_ok _ _ S (by decide)
      have ad : ∀ S, vAdd (.int 98) (.int (c / 6 % 3)) S = .ok (.int (98 + c / 6 % 3)) S := fun S => rfl
      have eq : ∀ S, vEq (.int 5) (.int 5) S = .ok (.bl true) S := fun S => by rw [vEq_int]; rfl
      simp only [sIf_ap, tAndF_ap, tsB_ap, op2_ap, opS_ap, aC_ap, aN_ap, eV_ap, eC_ap, List.getElem?_cons_succ, List.getElem?_cons_zero, eVK_s, Ou.bind_ok, lenc, gt, bK_b, ifB_t, ix, t8, m6, eq, Ou.thn_ok, ifK_t, sFor_ap, iRange1_ap, d6, m3, ad, hr]
      exact L
    · refine ⟨A0, [], none, none, none, inv0, ?_⟩
      simp [vLen, lenD, vGt, vIx, atI, ixN, vInt, vMod, h5]
theorem st5g (ns : List Int) (n : Int) (ds : List D) (chk : Sto → Prop) (gf : Gf) (b : Fs) (k nn o u : Option D) (S : Sto) (hn : vLen [.frl (ns.map D.int)] S = .ok (.int n) S) (hr : rng1 [.int n] S = .ok (ds, chk) S) : sFor (iRange1 (aC (opS vLen (aC (eV 0) aN)) aN)) gf b (e7 ns k nn o u) S = forGo chk gf b ds (e7 ns k nn o u) S := by
  rw [sFor_ap, iRange1_ap, aC_ap, opS_ap, aC_ap, eV_ap, List.getElem?_cons_zero, eVK_s, Ou.bind_ok, aN_ap, Ou.bind_ok, Ou.bind_ok, hn, Ou.bind_ok, aN_ap, Ou.bind_ok, Ou.bind_ok, hr, Ou.thn_ok]
theorem st6g (ns : List Int) (k nn o u : Option D) (S S' : Sto) (w : Str) (h2 : F_law_strange [.ref 7] S = .ok (.str w) S) (h4 : F_law_missing [.ref 0, .str w] S = .ok (.bl true) S') : sRet (eCall 2 F_law_missing (aC (eV 1) (aC (eCall 1 F_law_strange (aC (eV 2) aN)) aN))) (e7 ns k nn o u) S = .rt (.bl true) S' := by
  simp only [sRet_ap, eCall_ap, aC_ap, aN_ap, eV_ap, List.getElem?_cons_succ, List.getElem?_cons_zero, eVK_s, Ou.bind_ok, List.length_cons, List.length_nil, Nat.zero_add, Nat.reduceAdd, if_true, h2, h4, Ou.thn_ok]
theorem law_true (ns : List Int) (h : ns.length ≤ 63) : ∃ S', F_law [.frl (ns.map D.int)] [] = .ok (.bl true) S' := by
  have st1 := st1 ns
  have st2 := st2 ns
  have st3 := st3 ns
  have len := len63 ns
  generalize hG : ([.lst [.int 1000000000000000, .int 100, .int 100], .lst [.int 1000000000000000, .int 100, .int 100]] : Sto) = G at st3
  have st4 := st4 ns G
  obtain ⟨A1, E1, x1, n1, o1, I1, st4⟩ := st4
  obtain ⟨A2, E2, x2, o2, u2, I2, L⟩ := main_loop ns (List.range ns.length) (fun i hi => List.mem_range.mp hi) A1 (G ++ E1) x1 n1 o1 none I1
  have hr := rng_ok (ns.length : Int) (by omega) (by omega) (sto A1 A1 (G ++ E1))
  rw [Int.toNat_natCast] at hr
  have st5 := (st5g ns ns.length _ _ (gN 3) mainBody x1 n1 o1 none (sto A1 A1 (G ++ E1)) (len _) hr).trans L
  obtain ⟨w, h1, h2⟩ := strange_eq A2 A2 (G ++ E1 ++ E2) I2.ne
  have h3 : aget A2.bal w = none := by
    have := I2.bal w
    rw [h1] at this
    cases e : aget A2.bal w with
    | none => rfl
    | some v => rw [e] at this; cases this
  obtain ⟨E3, h4⟩ := missing_eq A2 A2 (G ++ E1 ++ E2) w h1 h3
  refine ⟨sto A2 A2 (G ++ E1 ++ E2 ++ E3), ?_⟩
  have run : d_law [some (.frl (ns.map D.int)), none, none, none, none, none, none] [] = .rt (.bl true) (sto A2 A2 (G ++ E1 ++ E2 ++ E3)) := by
    unfold d_law
    refine (seq_nx st1).trans ((seq_nx st2).trans ((seq_nx st3).trans ((seq_nx st4).trans ((seq_nx st5).trans ?_))))
    exact st6g ns x2 n1 o2 u2 _ _ w h2 h4
  unfold F_law fnM
  rw [if_pos (show [D.frl (ns.map D.int)].length = 1 from rfl)]
  have e0 : ([D.frl (ns.map D.int)].map some ++ List.replicate (7 - 1) none : En) = [some (.frl (ns.map D.int)), none, none, none, none, none, none] := rfl
  rw [e0, run]
end Lw

set_option Elab.async false
set_option linter.all false
set_option maxRecDepth 100000
set_option maxHeartbeats 4000000
set_option autoImplicit false
/-! the walk -/
namespace Lw
open PySem PySem.Spec L2 Mi PyProof.Rows
def top (i : Nat) : Stmt := PySem.Challenge.pw_oathledger_k46_accounts_step_by_step.main.body.getD i (.Pass ⟨0, 0, 0, 0⟩)
abbrev s_Accounts_init : Stmt := inClass (top 9) 0
abbrev s_Accounts_create : Stmt := inClass (top 9) 4
abbrev s_Accounts_owner : Stmt := inClass (top 9) 1
abbrev s_Accounts_close : Stmt := inClass (top 9) 5
abbrev s_Accounts_balance : Stmt := inClass (top 9) 2
abbrev s_Accounts_issue : Stmt := inClass (top 9) 6
abbrev s_Accounts_check_funds : Stmt := inClass (top 9) 8
abbrev s_Accounts_burn : Stmt := inClass (top 9) 7
abbrev s_Accounts_check_payment : Stmt := inClass (top 9) 9
abbrev s_Accounts_pay : Stmt := inClass (top 9) 10
abbrev s_Accounts_hold : Stmt := inClass (top 9) 11
abbrev s_Accounts_settle : Stmt := inClass (top 9) 12
abbrev s_Accounts_release : Stmt := inClass (top 9) 13
abbrev s_law_call : Stmt := top 17
abbrev s_law_apply : Stmt := top 22
abbrev s_law_rich : Stmt := top 15
abbrev s_law_amount : Stmt := top 14
abbrev s_law_word : Stmt := top 11
abbrev s_law_key : Stmt := top 13
abbrev s_law_name : Stmt := top 12
abbrev s_law_op : Stmt := top 16
abbrev s_law_close : Stmt := top 20
abbrev s_law_funds : Stmt := top 18
abbrev s_law_payment : Stmt := top 19
abbrev s_law_reason : Stmt := top 21
abbrev s_Accounts_rows : Stmt := inClass (top 9) 14
abbrev s_Accounts_held : Stmt := inClass (top 9) 15
abbrev s_Accounts_supply : Stmt := inClass (top 9) 3
abbrev s_law_same : Stmt := top 23
abbrev s_law_missing : Stmt := top 25
abbrev s_law_strange : Stmt := top 24
abbrev s_law : Stmt := top 26
abbrev s_Refused_init : Stmt := inClass (top 3) 0
abbrev Lx (Cs : List Addr) : Ly := ⟨fun c => Cs.getD c 0, fun c => flds.getD c [], none⟩
/-- what the top has left -/
structure Tx (P : Program) (w : World) (K : PySem.W.Frag) (mg : Str → Option Value) (base : Heap) (Cs : List Addr) : Prop where
  b_ValueError : mg "ValueError" = none
  b_int : mg "int" = none
  b_isinstance : mg "isinstance" = none
  b_len : mg "len" = none
  b_list : mg "list" = none
  b_range : mg "range" = none
  b_sorted : mg "sorted" = none
  b_sum : mg "sum" = none
  k_ACCOUNT_LIMIT : ∃ u, mg "ACCOUNT_LIMIT" = some u ∧ ConstV K (.int 100) u
  k_HOLD_LIMIT : ∃ u, mg "HOLD_LIMIT" = some u ∧ ConstV K (.int 100) u
  k_MINT : ∃ u, mg "MINT" = some u ∧ ConstV K (.int (-1)) u
  k_SUPPLY_LIMIT : ∃ u, mg "SUPPLY_LIMIT" = some u ∧ ConstV K (.int 1000000000000000) u
  fl_balances_ok : FldOk K (Lx Cs) "balances" fl_balances
  fl_holds_ok : FldOk K (Lx Cs) "holds" fl_holds
  fl_owners_ok : FldOk K (Lx Cs) "owners" fl_owners
  fl_total_ok : FldOk K (Lx Cs) "total" fl_total
  mg_LedgerError : mg "LedgerError" = some (.ref ((Lx Cs).ct 0))
  mg_Refused : mg "Refused" = some (.ref ((Lx Cs).ct 1))
  xn_Refused : Xn P w K mg base (Lx Cs) "Refused" 1 ["reason"] 1
  ext_LedgerError_ok : ∀ p ∈ ext_LedgerError, PySem.W.exmOne K (.ref ((Lx Cs).ct p.1)) (.ref ((Lx Cs).ct 0)) = some p.2
  ext_Refused_ok : ∀ p ∈ ext_Refused, PySem.W.exmOne K (.ref ((Lx Cs).ct p.1)) (.ref ((Lx Cs).ct 1)) = some p.2
  xis_Refused_ok : ∀ Xx : Cx, Xx.K = K → XisT Xx (Lx Cs) (.ref ((Lx Cs).ct 1)) xis_Refused
  xis_ValueError_ok : ∀ Xx : Cx, Xx.K = K → XisT Xx (Lx Cs) (.type "ValueError") xis_ValueError
  xf_reason_ok : ∀ Xx : Cx, Xx.K = K → XfT Xx (Lx Cs) "reason" xf_reason
section
variable {P : Program} {w : World} {K : PySem.W.Frag} {mg : Str → Option Value} {base : Heap} {Cs : List Addr}
theorem sc_Accounts_init : FnScope ["self"] ["self"] (defScope s_Accounts_init) := ⟨rfl, rfl, rfl, by decide +kernel, rfl, by decide +kernel, by decide +kernel⟩
theorem ok_Accounts_init (T : Tx P w K mg base Cs) (hf : FI K ((Lx Cs).ct 2) "Accounts.__init__" s_Accounts_init) (hm : mg "Accounts" = some (.ref ((Lx Cs).ct 2)))  : Kn P w K mg base (Lx Cs) "Accounts" 1 2 4 0 F_Accounts_init := by
  obtain ⟨f, fd, hC, h1, F⟩ := hf
  refine ⟨hm, ⟨by rfl, by decide, (show (flds.getD 2 []).Nodup by decide +kernel)⟩, f, h1, fn_ok rfl F sc_Accounts_init (F.binds (ps := ["self"]) fun _ _ _ _ _ _ us hl => match us, hl with | [_], _ => rfl) rfl rfl fun cdv A outer s H E hr tk po => ?_⟩
  exact (mss_cons (ms_fld T.fl_owners_ok (me_v 0) me_dnew)
  (mss_cons (ms_fld T.fl_balances_ok (me_v 0) me_dnew)
  (mss_cons (ms_fld T.fl_holds_ok (me_v 0) me_dnew)
  (mss_one (ms_fld T.fl_total_ok (me_v 0) me_int)))))
theorem sc_Accounts_create : FnScope ["self", "client", "name"] ["self", "client", "name"] (defScope s_Accounts_create) := ⟨rfl, rfl, rfl, by decide +kernel, rfl, by decide +kernel, by decide +kernel⟩
theorem ok_Accounts_create (T : Tx P w K mg base Cs) (hf : FM K ((Lx Cs).ct 2) "create" "Accounts.create" s_Accounts_create)  : Mn P w K mg base (Lx Cs) 2 "create" 3 2 F_Accounts_create := by
  obtain ⟨f, fd, hC, h1, F⟩ := hf
  refine ⟨hC, (show ("create" : Str) ∉ flds.getD 2 [] by decide +kernel), f, h1, fn_ok rfl F sc_Accounts_create (F.binds (ps := ["self", "client", "name"]) fun _ _ _ _ _ _ us hl => match us, hl with | [_, _, _], _ => rfl) rfl rfl fun cdv A outer s H E hr tk po => ?_⟩
  exact (mss_cons (ms_if (mt_cmp (om_in (u65 hr)) (me_v 2) (me_fld T.fl_owners_ok (me_v 0)) (by with_unfolding_all rfl)) (mss_one (ms_raiseI (Xn.ok T.xn_Refused) (by rfl) tk (hr.mono (by decide)) (by rfl) (ma_cons me_str ma_nil))) mss_nil)
  (mss_cons (ms_if (mt_cmp om_ge (me_bi cm_len (by rfl) T.b_len (by first | rfl | decide +kernel) (ma_cons (me_fld T.fl_owners_ok (me_v 0)) ma_nil)) (me_const (by rfl) T.k_ACCOUNT_LIMIT) (nomark _)) (mss_one (ms_raiseI (Xn.ok T.xn_Refused) (by rfl) tk (hr.mono (by decide)) (by rfl) (ma_cons me_str ma_nil))) mss_nil)
  (mss_cons (ms_sub (u1 hr) (me_fld T.fl_owners_ok (me_v 0)) (me_v 2) (me_v 1))
  (mss_one (ms_sub (u1 hr) (me_fld T.fl_balances_ok (me_v 0)) (me_v 2) me_int)))))
theorem sc_Accounts_owner : FnScope ["self", "name"] ["self", "name"] (defScope s_Accounts_owner) := ⟨rfl, rfl, rfl, by decide +kernel, rfl, by decide +kernel, by decide +kernel⟩
theorem ok_Accounts_owner (T : Tx P w K mg base Cs) (hf : FM K ((Lx Cs).ct 2) "owner" "Accounts.owner" s_Accounts_owner)  : Mn P w K mg base (Lx Cs) 2 "owner" 3 1 F_Accounts_owner := by
  obtain ⟨f, fd, hC, h1, F⟩ := hf
  refine ⟨hC, (show ("owner" : Str) ∉ flds.getD 2 [] by decide +kernel), f, h1, fn_ok rfl F sc_Accounts_owner (F.binds (ps := ["self", "name"]) fun _ _ _ _ _ _ us hl => match us, hl with | [_, _], _ => rfl) rfl rfl fun cdv A outer s H E hr tk po => ?_⟩
  exact (mss_cons (ms_if (mt_cmp (om_notIn (u65 hr)) (me_v 1) (me_fld T.fl_owners_ok (me_v 0)) (by with_unfolding_all rfl)) (mss_one (ms_raiseI (Xn.ok T.xn_Refused) (by rfl) tk (hr.mono (by decide)) (by rfl) (ma_cons me_str ma_nil))) mss_nil)
  (mss_one (ms_ret (me_ix (u1 hr) (me_fld T.fl_owners_ok (me_v 0)) (me_v 1)))))
theorem sc_Accounts_close : FnScope ["self", "client", "name", "source", "target", "_"] ["self", "client", "name"] (defScope s_Accounts_close) := ⟨rfl, rfl, rfl, by decide +kernel, rfl, by decide +kernel, by decide +kernel⟩
theorem ok_Accounts_close (T : Tx P w K mg base Cs) (hf : FM K ((Lx Cs).ct 2) "close" "Accounts.close" s_Accounts_close) (M_Accounts_owner : Mn P w K mg base (Lx Cs) 2 "owner" 3 1 F_Accounts_owner) : Mn P w K mg base (Lx Cs) 2 "close" 4 2 F_Accounts_close := by
  obtain ⟨f, fd, hC, h1, F⟩ := hf
  refine ⟨hC, (show ("close" : Str) ∉ flds.getD 2 [] by decide +kernel), f, h1, fn_ok rfl F sc_Accounts_close (F.binds (ps := ["self", "client", "name"]) fun _ _ _ _ _ _ us hl => match us, hl with | [_, _, _], _ => rfl) rfl rfl fun cdv A outer s H E hr tk po => ?_⟩
  exact (mss_cons (ms_if (mt_cmp (om_ne (u64 hr)) (me_meth (Mn.ok M_Accounts_owner) tk (hr.mono (by decide)) (me_v 0) (ma_cons (me_v 2) ma_nil)) (me_v 1) (nomark _)) (mss_one (ms_raiseI (Xn.ok T.xn_Refused) (by rfl) tk (hr.mono (by decide)) (by rfl) (ma_cons me_str ma_nil))) mss_nil)
  (mss_cons (ms_if (mt_cmp (om_ne (u64 hr)) (me_ix (u1 hr) (me_fld T.fl_balances_ok (me_v 0)) (me_v 2)) me_int (nomark _)) (mss_one (ms_raiseI (Xn.ok T.xn_Refused) (by rfl) tk (hr.mono (by decide)) (by rfl) (ma_cons me_str ma_nil))) mss_nil)
  (mss_cons (ms_lock tk fun W tk => (ms_for po (by rfl) (gn_tup _) (mi_vals (me_fld T.fl_holds_ok (me_v 0))) (mg_tup [3, 4, 5] (by rfl) (mgs_cons 3 sc_Accounts_close.nd (by rfl) (by first | exact Or.inl rfl | exact Or.inr rfl) (mgs_cons 4 sc_Accounts_close.nd (by rfl) (by first | exact Or.inl rfl | exact Or.inr rfl) (mgs_cons 5 sc_Accounts_close.nd (by rfl) (by first | exact Or.inl rfl | exact Or.inr rfl) mgs_nil)))) (mss_one (ms_if (mt_w (mw_or (mt_cmp (om_eq (u64 hr)) (me_v 2) (me_v 3) (nomark _)) (mw_or1 (mt_cmp (om_eq (u64 hr)) (me_v 2) (me_v 4) (nomark _))))) (mss_one (ms_raiseI (Xn.ok T.xn_Refused) (by rfl) tk (hr.mono (by decide)) (by rfl) (ma_cons me_str ma_nil))) mss_nil))))
  (mss_cons (ms_del (me_fld T.fl_owners_ok (me_v 0)) (me_v 2))
  (mss_one (ms_del (me_fld T.fl_balances_ok (me_v 0)) (me_v 2)))))))
theorem sc_Accounts_balance : FnScope ["self", "name"] ["self", "name"] (defScope s_Accounts_balance) := ⟨rfl, rfl, rfl, by decide +kernel, rfl, by decide +kernel, by decide +kernel⟩
theorem ok_Accounts_balance (T : Tx P w K mg base Cs) (hf : FM K ((Lx Cs).ct 2) "balance" "Accounts.balance" s_Accounts_balance)  : Mn P w K mg base (Lx Cs) 2 "balance" 3 1 F_Accounts_balance := by
  obtain ⟨f, fd, hC, h1, F⟩ := hf
  refine ⟨hC, (show ("balance" : Str) ∉ flds.getD 2 [] by decide +kernel), f, h1, fn_ok rfl F sc_Accounts_balance (F.binds (ps := ["self", "name"]) fun _ _ _ _ _ _ us hl => match us, hl with | [_, _], _ => rfl) rfl rfl fun cdv A outer s H E hr tk po => ?_⟩
  exact (mss_cons (ms_if (mt_cmp (om_notIn (u65 hr)) (me_v 1) (me_fld T.fl_balances_ok (me_v 0)) (by with_unfolding_all rfl)) (mss_one (ms_raiseI (Xn.ok T.xn_Refused) (by rfl) tk (hr.mono (by decide)) (by rfl) (ma_cons me_str ma_nil))) mss_nil)
  (mss_one (ms_ret (me_ix (u1 hr) (me_fld T.fl_balances_ok (me_v 0)) (me_v 1)))))
theorem sc_Accounts_issue : FnScope ["self", "client", "name", "amount", "balance"] ["self", "client", "name", "amount"] (defScope s_Accounts_issue) := ⟨rfl, rfl, rfl, by decide +kernel, rfl, by decide +kernel, by decide +kernel⟩
theorem ok_Accounts_issue (T : Tx P w K mg base Cs) (hf : FM K ((Lx Cs).ct 2) "issue" "Accounts.issue" s_Accounts_issue) (M_Accounts_balance : Mn P w K mg base (Lx Cs) 2 "balance" 3 1 F_Accounts_balance) : Mn P w K mg base (Lx Cs) 2 "issue" 4 3 F_Accounts_issue := by
  obtain ⟨f, fd, hC, h1, F⟩ := hf
  refine ⟨hC, (show ("issue" : Str) ∉ flds.getD 2 [] by decide +kernel), f, h1, fn_ok rfl F sc_Accounts_issue (F.binds (ps := ["self", "client", "name", "amount"]) fun _ _ _ _ _ _ us hl => match us, hl with | [_, _, _, _], _ => rfl) rfl rfl fun cdv A outer s H E hr tk po => ?_⟩
  exact (mss_cons (ms_if (mt_cmp (om_ne (u64 hr)) (me_v 1) (me_const (by rfl) T.k_MINT) (nomark _)) (mss_one (ms_raiseI (Xn.ok T.xn_Refused) (by rfl) tk (hr.mono (by decide)) (by rfl) (ma_cons me_str ma_nil))) mss_nil)
  (mss_cons (ms_set 4 sc_Accounts_issue.nd (by rfl) (by first | exact Or.inl rfl | exact Or.inr rfl) (me_meth (Mn.ok M_Accounts_balance) tk (hr.mono (by decide)) (me_v 0) (ma_cons (me_v 2) ma_nil)))
  (mss_cons (ms_if (mt_cmp om_gt (me_op om_add (me_fld T.fl_total_ok (me_v 0)) (me_v 3)) (me_const (by rfl) T.k_SUPPLY_LIMIT) (nomark _)) (mss_one (ms_raiseI (Xn.ok T.xn_Refused) (by rfl) tk (hr.mono (by decide)) (by rfl) (ma_cons me_str ma_nil))) mss_nil)
  (mss_cons (ms_sub (u1 hr) (me_fld T.fl_balances_ok (me_v 0)) (me_v 2) (me_op om_add (me_v 4) (me_v 3)))
  (mss_one (ms_augF T.fl_total_ok iom_add (me_v 0) (me_v 3)))))))
theorem sc_Accounts_check_funds : FnScope ["self", "client", "name", "amount"] ["self", "client", "name", "amount"] (defScope s_Accounts_check_funds) := ⟨rfl, rfl, rfl, by decide +kernel, rfl, by decide +kernel, by decide +kernel⟩
theorem ok_Accounts_check_funds (T : Tx P w K mg base Cs) (hf : FM K ((Lx Cs).ct 2) "_check_funds" "Accounts._check_funds" s_Accounts_check_funds) (M_Accounts_owner : Mn P w K mg base (Lx Cs) 2 "owner" 3 1 F_Accounts_owner) : Mn P w K mg base (Lx Cs) 2 "_check_funds" 4 3 F_Accounts_check_funds := by
  obtain ⟨f, fd, hC, h1, F⟩ := hf
  refine ⟨hC, (show ("_check_funds" : Str) ∉ flds.getD 2 [] by decide +kernel), f, h1, fn_ok rfl F sc_Accounts_check_funds (F.binds (ps := ["self", "client", "name", "amount"]) fun _ _ _ _ _ _ us hl => match us, hl with | [_, _, _, _], _ => rfl) rfl rfl fun cdv A outer s H E hr tk po => ?_⟩
  exact (mss_cons (ms_if (mt_cmp (om_ne (u64 hr)) (me_meth (Mn.ok M_Accounts_owner) tk (hr.mono (by decide)) (me_v 0) (ma_cons (me_v 2) ma_nil)) (me_v 1) (nomark _)) (mss_one (ms_raiseI (Xn.ok T.xn_Refused) (by rfl) tk (hr.mono (by decide)) (by rfl) (ma_cons me_str ma_nil))) mss_nil)
  (mss_one (ms_if (mt_cmp om_lt (me_ix (u1 hr) (me_fld T.fl_balances_ok (me_v 0)) (me_v 2)) (me_v 3) (nomark _)) (mss_one (ms_raiseI (Xn.ok T.xn_Refused) (by rfl) tk (hr.mono (by decide)) (by rfl) (ma_cons me_str ma_nil))) mss_nil)))
theorem sc_Accounts_burn : FnScope ["self", "client", "name", "amount"] ["self", "client", "name", "amount"] (defScope s_Accounts_burn) := ⟨rfl, rfl, rfl, by decide +kernel, rfl, by decide +kernel, by decide +kernel⟩
theorem ok_Accounts_burn (T : Tx P w K mg base Cs) (hf : FM K ((Lx Cs).ct 2) "burn" "Accounts.burn" s_Accounts_burn) (M_Accounts_check_funds : Mn P w K mg base (Lx Cs) 2 "_check_funds" 4 3 F_Accounts_check_funds) : Mn P w K mg base (Lx Cs) 2 "burn" 5 3 F_Accounts_burn := by
  obtain ⟨f, fd, hC, h1, F⟩ := hf
  refine ⟨hC, (show ("burn" : Str) ∉ flds.getD 2 [] by decide +kernel), f, h1, fn_ok rfl F sc_Accounts_burn (F.binds (ps := ["self", "client", "name", "amount"]) fun _ _ _ _ _ _ us hl => match us, hl with | [_, _, _, _], _ => rfl) rfl rfl fun cdv A outer s H E hr tk po => ?_⟩
  exact (mss_cons (ms_expr (me_meth (Mn.ok M_Accounts_check_funds) tk (hr.mono (by decide)) (me_v 0) (ma_cons (me_v 1) (ma_cons (me_v 2) (ma_cons (me_v 3) ma_nil)))))
  (mss_cons (ms_augD (u1 hr) iom_sub (me_fld T.fl_balances_ok (me_v 0)) (me_v 2) (me_v 3))
  (mss_one (ms_augF T.fl_total_ok iom_sub (me_v 0) (me_v 3)))))
theorem sc_Accounts_check_payment : FnScope ["self", "client", "source", "target", "amount"] ["self", "client", "source", "target", "amount"] (defScope s_Accounts_check_payment) := ⟨rfl, rfl, rfl, by decide +kernel, rfl, by decide +kernel, by decide +kernel⟩
theorem ok_Accounts_check_payment (T : Tx P w K mg base Cs) (hf : FM K ((Lx Cs).ct 2) "_check_payment" "Accounts._check_payment" s_Accounts_check_payment) (M_Accounts_check_funds : Mn P w K mg base (Lx Cs) 2 "_check_funds" 4 3 F_Accounts_check_funds) : Mn P w K mg base (Lx Cs) 2 "_check_payment" 5 4 F_Accounts_check_payment := by
  obtain ⟨f, fd, hC, h1, F⟩ := hf
  refine ⟨hC, (show ("_check_payment" : Str) ∉ flds.getD 2 [] by decide +kernel), f, h1, fn_ok rfl F sc_Accounts_check_payment (F.binds (ps := ["self", "client", "source", "target", "amount"]) fun _ _ _ _ _ _ us hl => match us, hl with | [_, _, _, _, _], _ => rfl) rfl rfl fun cdv A outer s H E hr tk po => ?_⟩
  exact (mss_cons (ms_if (mt_w (mw_or (mt_cmp (om_notIn (u65 hr)) (me_v 2) (me_fld T.fl_owners_ok (me_v 0)) (by with_unfolding_all rfl)) (mw_or1 (mt_cmp (om_notIn (u65 hr)) (me_v 3) (me_fld T.fl_owners_ok (me_v 0)) (by with_unfolding_all rfl))))) (mss_one (ms_raiseI (Xn.ok T.xn_Refused) (by rfl) tk (hr.mono (by decide)) (by rfl) (ma_cons me_str ma_nil))) mss_nil)
  (mss_one (ms_expr (me_meth (Mn.ok M_Accounts_check_funds) tk (hr.mono (by decide)) (me_v 0) (ma_cons (me_v 1) (ma_cons (me_v 2) (ma_cons (me_v 4) ma_nil)))))))
theorem sc_Accounts_pay : FnScope ["self", "client", "source", "target", "amount"] ["self", "client", "source", "target", "amount"] (defScope s_Accounts_pay) := ⟨rfl, rfl, rfl, by decide +kernel, rfl, by decide +kernel, by decide +kernel⟩
theorem ok_Accounts_pay (T : Tx P w K mg base Cs) (hf : FM K ((Lx Cs).ct 2) "pay" "Accounts.pay" s_Accounts_pay) (M_Accounts_check_payment : Mn P w K mg base (Lx Cs) 2 "_check_payment" 5 4 F_Accounts_check_payment) : Mn P w K mg base (Lx Cs) 2 "pay" 6 4 F_Accounts_pay := by
  obtain ⟨f, fd, hC, h1, F⟩ := hf
  refine ⟨hC, (show ("pay" : Str) ∉ flds.getD 2 [] by decide +kernel), f, h1, fn_ok rfl F sc_Accounts_pay (F.binds (ps := ["self", "client", "source", "target", "amount"]) fun _ _ _ _ _ _ us hl => match us, hl with | [_, _, _, _, _], _ => rfl) rfl rfl fun cdv A outer s H E hr tk po => ?_⟩
  exact (mss_cons (ms_expr (me_meth (Mn.ok M_Accounts_check_payment) tk (hr.mono (by decide)) (me_v 0) (ma_cons (me_v 1) (ma_cons (me_v 2) (ma_cons (me_v 3) (ma_cons (me_v 4) ma_nil))))))
  (mss_cons (ms_augD (u1 hr) iom_sub (me_fld T.fl_balances_ok (me_v 0)) (me_v 2) (me_v 4))
  (mss_one (ms_augD (u1 hr) iom_add (me_fld T.fl_balances_ok (me_v 0)) (me_v 3) (me_v 4)))))
theorem sc_Accounts_hold : FnScope ["self", "client", "source", "target", "amount", "key"] ["self", "client", "source", "target", "amount", "key"] (defScope s_Accounts_hold) := ⟨rfl, rfl, rfl, by decide +kernel, rfl, by decide +kernel, by decide +kernel⟩
theorem ok_Accounts_hold (T : Tx P w K mg base Cs) (hf : FM K ((Lx Cs).ct 2) "hold" "Accounts.hold" s_Accounts_hold) (M_Accounts_check_payment : Mn P w K mg base (Lx Cs) 2 "_check_payment" 5 4 F_Accounts_check_payment) : Mn P w K mg base (Lx Cs) 2 "hold" 6 5 F_Accounts_hold := by
  obtain ⟨f, fd, hC, h1, F⟩ := hf
  refine ⟨hC, (show ("hold" : Str) ∉ flds.getD 2 [] by decide +kernel), f, h1, fn_ok rfl F sc_Accounts_hold (F.binds (ps := ["self", "client", "source", "target", "amount", "key"]) fun _ _ _ _ _ _ us hl => match us, hl with | [_, _, _, _, _, _], _ => rfl) rfl rfl fun cdv A outer s H E hr tk po => ?_⟩
  exact (mss_cons (ms_expr (me_meth (Mn.ok M_Accounts_check_payment) tk (hr.mono (by decide)) (me_v 0) (ma_cons (me_v 1) (ma_cons (me_v 2) (ma_cons (me_v 3) (ma_cons (me_v 4) ma_nil))))))
  (mss_cons (ms_if (mt_cmp (om_in (u65 hr)) (me_v 5) (me_fld T.fl_holds_ok (me_v 0)) (by with_unfolding_all rfl)) (mss_one (ms_raiseI (Xn.ok T.xn_Refused) (by rfl) tk (hr.mono (by decide)) (by rfl) (ma_cons me_str ma_nil))) mss_nil)
  (mss_cons (ms_if (mt_cmp om_ge (me_bi cm_len (by rfl) T.b_len (by first | rfl | decide +kernel) (ma_cons (me_fld T.fl_holds_ok (me_v 0)) ma_nil)) (me_const (by rfl) T.k_HOLD_LIMIT) (nomark _)) (mss_one (ms_raiseI (Xn.ok T.xn_Refused) (by rfl) tk (hr.mono (by decide)) (by rfl) (ma_cons me_str ma_nil))) mss_nil)
  (mss_cons (ms_augD (u1 hr) iom_sub (me_fld T.fl_balances_ok (me_v 0)) (me_v 2) (me_v 4))
  (mss_one (ms_sub (u1 hr) (me_fld T.fl_holds_ok (me_v 0)) (me_v 5) (me_tup (ma_cons (me_v 2) (ma_cons (me_v 3) (ma_cons (me_v 4) ma_nil))))))))))
theorem sc_Accounts_settle : FnScope ["self", "client", "key", "source", "target", "amount"] ["self", "client", "key"] (defScope s_Accounts_settle) := ⟨rfl, rfl, rfl, by decide +kernel, rfl, by decide +kernel, by decide +kernel⟩
theorem ok_Accounts_settle (T : Tx P w K mg base Cs) (hf : FM K ((Lx Cs).ct 2) "settle" "Accounts.settle" s_Accounts_settle)  : Mn P w K mg base (Lx Cs) 2 "settle" 3 2 F_Accounts_settle := by
  obtain ⟨f, fd, hC, h1, F⟩ := hf
  refine ⟨hC, (show ("settle" : Str) ∉ flds.getD 2 [] by decide +kernel), f, h1, fn_ok rfl F sc_Accounts_settle (F.binds (ps := ["self", "client", "key"]) fun _ _ _ _ _ _ us hl => match us, hl with | [_, _, _], _ => rfl) rfl rfl fun cdv A outer s H E hr tk po => ?_⟩
  exact (mss_cons (ms_if (mt_cmp (om_notIn (u65 hr)) (me_v 2) (me_fld T.fl_holds_ok (me_v 0)) (by with_unfolding_all rfl)) (mss_one (ms_raiseI (Xn.ok T.xn_Refused) (by rfl) tk (hr.mono (by decide)) (by rfl) (ma_cons me_str ma_nil))) mss_nil)
  (mss_cons (ms_asg (gn_tup _) (me_ix (u1 hr) (me_fld T.fl_holds_ok (me_v 0)) (me_v 2)) (mg_tup [3, 4, 5] (by rfl) (mgs_cons 3 sc_Accounts_settle.nd (by rfl) (by first | exact Or.inl rfl | exact Or.inr rfl) (mgs_cons 4 sc_Accounts_settle.nd (by rfl) (by first | exact Or.inl rfl | exact Or.inr rfl) (mgs_cons 5 sc_Accounts_settle.nd (by rfl) (by first | exact Or.inl rfl | exact Or.inr rfl) mgs_nil)))))
  (mss_cons (ms_if (mt_cmp (om_ne (u64 hr)) (me_ix (u1 hr) (me_fld T.fl_owners_ok (me_v 0)) (me_v 3)) (me_v 1) (nomark _)) (mss_one (ms_raiseI (Xn.ok T.xn_Refused) (by rfl) tk (hr.mono (by decide)) (by rfl) (ma_cons me_str ma_nil))) mss_nil)
  (mss_cons (ms_del (me_fld T.fl_holds_ok (me_v 0)) (me_v 2))
  (mss_one (ms_augD (u1 hr) iom_add (me_fld T.fl_balances_ok (me_v 0)) (me_v 4) (me_v 5)))))))
theorem sc_Accounts_release : FnScope ["self", "client", "key", "source", "target", "amount"] ["self", "client", "key"] (defScope s_Accounts_release) := ⟨rfl, rfl, rfl, by decide +kernel, rfl, by decide +kernel, by decide +kernel⟩
theorem ok_Accounts_release (T : Tx P w K mg base Cs) (hf : FM K ((Lx Cs).ct 2) "release" "Accounts.release" s_Accounts_release)  : Mn P w K mg base (Lx Cs) 2 "release" 3 2 F_Accounts_release := by
  obtain ⟨f, fd, hC, h1, F⟩ := hf
  refine ⟨hC, (show ("release" : Str) ∉ flds.getD 2 [] by decide +kernel), f, h1, fn_ok rfl F sc_Accounts_release (F.binds (ps := ["self", "client", "key"]) fun _ _ _ _ _ _ us hl => match us, hl with | [_, _, _], _ => rfl) rfl rfl fun cdv A outer s H E hr tk po => ?_⟩
  exact (mss_cons (ms_if (mt_cmp (om_notIn (u65 hr)) (me_v 2) (me_fld T.fl_holds_ok (me_v 0)) (by with_unfolding_all rfl)) (mss_one (ms_raiseI (Xn.ok T.xn_Refused) (by rfl) tk (hr.mono (by decide)) (by rfl) (ma_cons me_str ma_nil))) mss_nil)
  (mss_cons (ms_asg (gn_tup _) (me_ix (u1 hr) (me_fld T.fl_holds_ok (me_v 0)) (me_v 2)) (mg_tup [3, 4, 5] (by rfl) (mgs_cons 3 sc_Accounts_release.nd (by rfl) (by first | exact Or.inl rfl | exact Or.inr rfl) (mgs_cons 4 sc_Accounts_release.nd (by rfl) (by first | exact Or.inl rfl | exact Or.inr rfl) (mgs_cons 5 sc_Accounts_release.nd (by rfl) (by first | exact Or.inl rfl | exact Or.inr rfl) mgs_nil)))))
  (mss_cons (ms_if (mt_cmp (om_ne (u64 hr)) (me_ix (u1 hr) (me_fld T.fl_owners_ok (me_v 0)) (me_v 4)) (me_v 1) (nomark _)) (mss_one (ms_raiseI (Xn.ok T.xn_Refused) (by rfl) tk (hr.mono (by decide)) (by rfl) (ma_cons me_str ma_nil))) mss_nil)
  (mss_cons (ms_del (me_fld T.fl_holds_ok (me_v 0)) (me_v 2))
  (mss_one (ms_augD (u1 hr) iom_add (me_fld T.fl_balances_ok (me_v 0)) (me_v 3) (me_v 5)))))))
theorem sc_law_call : FnScope ["accounts", "op", "verb", "client", "name", "other", "amount", "key", "e"] ["accounts", "op"] (defScope s_law_call) := ⟨rfl, rfl, rfl, by decide +kernel, rfl, by decide +kernel, by decide +kernel⟩
theorem ok_law_call (T : Tx P w K mg base Cs) (hf : FG K mg "_law_call" "_law_call" s_law_call) (M_Accounts_create : Mn P w K mg base (Lx Cs) 2 "create" 3 2 F_Accounts_create) (M_Accounts_close : Mn P w K mg base (Lx Cs) 2 "close" 4 2 F_Accounts_close) (M_Accounts_issue : Mn P w K mg base (Lx Cs) 2 "issue" 4 3 F_Accounts_issue) (M_Accounts_burn : Mn P w K mg base (Lx Cs) 2 "burn" 5 3 F_Accounts_burn) (M_Accounts_pay : Mn P w K mg base (Lx Cs) 2 "pay" 6 4 F_Accounts_pay) (M_Accounts_hold : Mn P w K mg base (Lx Cs) 2 "hold" 6 5 F_Accounts_hold) (M_Accounts_settle : Mn P w K mg base (Lx Cs) 2 "settle" 3 2 F_Accounts_settle) (M_Accounts_release : Mn P w K mg base (Lx Cs) 2 "release" 3 2 F_Accounts_release) : Gn P w K mg base (Lx Cs) "_law_call" 7 2 F_law_call := by
  obtain ⟨f, fd, h1, F⟩ := hf
  refine ⟨f, h1, F.kp, fn_ok rfl F sc_law_call (F.binds (ps := ["accounts", "op"]) fun _ _ _ _ _ _ us hl => match us, hl with | [_, _], _ => rfl) rfl rfl fun cdv A outer s H E hr tk po => ?_⟩
  exact (mss_cons (ms_asg (gn_tup _) (me_v 1) (mg_tup [2, 3, 4, 5, 6, 7] (by rfl) (mgs_cons 2 sc_law_call.nd (by rfl) (by first | exact Or.inl rfl | exact Or.inr rfl) (mgs_cons 3 sc_law_call.nd (by rfl) (by first | exact Or.inl rfl | exact Or.inr rfl) (mgs_cons 4 sc_law_call.nd (by rfl) (by first | exact Or.inl rfl | exact Or.inr rfl) (mgs_cons 5 sc_law_call.nd (by rfl) (by first | exact Or.inl rfl | exact Or.inr rfl) (mgs_cons 6 sc_law_call.nd (by rfl) (by first | exact Or.inl rfl | exact Or.inr rfl) (mgs_cons 7 sc_law_call.nd (by rfl) (by first | exact Or.inl rfl | exact Or.inr rfl) mgs_nil))))))))
  (mss_cons (ms_tryAs rfl (by rfl) (by rfl) sc_law_call.nd (by rfl) (by rfl) tk (ExT.mk1 ⟨by rfl, by decide, Or.inl T.mg_Refused⟩ T.ext_Refused_ok) (fun W pn xe tk po => (mss_one (ms_if (mt_cmp (om_eq (u64 hr)) (me_v 2) me_str (nomark _)) (mss_one (ms_expr (me_meth (Mn.ok M_Accounts_create) tk (hr.mono (by decide)) (me_v 0) (ma_cons (me_v 3) (ma_cons (me_v 4) ma_nil))))) (mss_one (ms_if (mt_cmp (om_eq (u64 hr)) (me_v 2) me_str (nomark _)) (mss_one (ms_expr (me_meth (Mn.ok M_Accounts_close) tk (hr.mono (by decide)) (me_v 0) (ma_cons (me_v 3) (ma_cons (me_v 4) ma_nil))))) (mss_one (ms_if (mt_cmp (om_eq (u64 hr)) (me_v 2) me_str (nomark _)) (mss_one (ms_expr (me_meth (Mn.ok M_Accounts_issue) tk (hr.mono (by decide)) (me_v 0) (ma_cons (me_v 3) (ma_cons (me_v 4) (ma_cons (me_v 6) ma_nil)))))) (mss_one (ms_if (mt_cmp (om_eq (u64 hr)) (me_v 2) me_str (nomark _)) (mss_one (ms_expr (me_meth (Mn.ok M_Accounts_burn) tk (hr.mono (by decide)) (me_v 0) (ma_cons (me_v 3) (ma_cons (me_v 4) (ma_cons (me_v 6) ma_nil)))))) (mss_one (ms_if (mt_cmp (om_eq (u64 hr)) (me_v 2) me_str (nomark _)) (mss_one (ms_expr (me_meth (Mn.ok M_Accounts_pay) tk (hr.mono (by decide)) (me_v 0) (ma_cons (me_v 3) (ma_cons (me_v 4) (ma_cons (me_v 5) (ma_cons (me_v 6) ma_nil))))))) (mss_one (ms_if (mt_cmp (om_eq (u64 hr)) (me_v 2) me_str (nomark _)) (mss_one (ms_expr (me_meth (Mn.ok M_Accounts_hold) tk (hr.mono (by decide)) (me_v 0) (ma_cons (me_v 3) (ma_cons (me_v 4) (ma_cons (me_v 5) (ma_cons (me_v 6) (ma_cons (me_v 7) ma_nil)))))))) (mss_one (ms_if (mt_cmp (om_eq (u64 hr)) (me_v 2) me_str (nomark _)) (mss_one (ms_expr (me_meth (Mn.ok M_Accounts_settle) tk (hr.mono (by decide)) (me_v 0) (ma_cons (me_v 3) (ma_cons (me_v 7) ma_nil))))) (mss_one (ms_expr (me_meth (Mn.ok M_Accounts_release) tk (hr.mono (by decide)) (me_v 0) (ma_cons (me_v 3) (ma_cons (me_v 7) ma_nil)))))))))))))))))))) (fun a oe cls d pn x hcl hz hf => (mss_one (ms_ret (me_xf (T.xf_reason_ok _ rfl) hcl hz hf (by rfl) (by first | exact Or.inl rfl | exact Or.inr (Or.inl rfl) | exact Or.inr (Or.inr rfl)))))))
  (mss_one (ms_ret me_str))))
theorem sc_law_apply : FnScope ["model", "op", "verb", "client", "name", "other", "amount", "key", "row", "target"] ["model", "op"] (defScope s_law_apply) := ⟨rfl, rfl, rfl, by decide +kernel, rfl, by decide +kernel, by decide +kernel⟩
theorem ok_law_apply (T : Tx P w K mg base Cs) (hf : FG K mg "_law_apply" "_law_apply" s_law_apply)  : Gn P w K mg base (Lx Cs) "_law_apply" 1 2 F_law_apply := by
  obtain ⟨f, fd, h1, F⟩ := hf
  refine ⟨f, h1, F.kp, fn_ok rfl F sc_law_apply (F.binds (ps := ["model", "op"]) fun _ _ _ _ _ _ us hl => match us, hl with | [_, _], _ => rfl) rfl rfl fun cdv A outer s H E hr tk po => ?_⟩
  exact (mss_cons (ms_asg (gn_tup _) (me_v 1) (mg_tup [2, 3, 4, 5, 6, 7] (by rfl) (mgs_cons 2 sc_law_apply.nd (by rfl) (by first | exact Or.inl rfl | exact Or.inr rfl) (mgs_cons 3 sc_law_apply.nd (by rfl) (by first | exact Or.inl rfl | exact Or.inr rfl) (mgs_cons 4 sc_law_apply.nd (by rfl) (by first | exact Or.inl rfl | exact Or.inr rfl) (mgs_cons 5 sc_law_apply.nd (by rfl) (by first | exact Or.inl rfl | exact Or.inr rfl) (mgs_cons 6 sc_law_apply.nd (by rfl) (by first | exact Or.inl rfl | exact Or.inr rfl) (mgs_cons 7 sc_law_apply.nd (by rfl) (by first | exact Or.inl rfl | exact Or.inr rfl) mgs_nil))))))))
  (mss_one (ms_if (mt_cmp (om_eq (u64 hr)) (me_v 2) me_str (nomark _)) (mss_cons (ms_sub (u1 hr) (me_ix (u1 hr) (me_v 0) me_int) (me_v 4) (me_v 3))
  (mss_one (ms_sub (u1 hr) (me_ix (u1 hr) (me_v 0) me_int) (me_v 4) me_int))) (mss_one (ms_if (mt_cmp (om_eq (u64 hr)) (me_v 2) me_str (nomark _)) (mss_cons (ms_expr (me_dpop1 (me_ix (u1 hr) (me_v 0) me_int) (me_v 4)))
  (mss_one (ms_expr (me_dpop1 (me_ix (u1 hr) (me_v 0) me_int) (me_v 4))))) (mss_one (ms_if (mt_cmp (om_eq (u64 hr)) (me_v 2) me_str (nomark _)) (mss_one (ms_sub (u1 hr) (me_ix (u1 hr) (me_v 0) me_int) (me_v 4) (me_op om_add (me_ix (u1 hr) (me_ix (u1 hr) (me_v 0) me_int) (me_v 4)) (me_v 6)))) (mss_one (ms_if (mt_cmp (om_eq (u64 hr)) (me_v 2) me_str (nomark _)) (mss_one (ms_sub (u1 hr) (me_ix (u1 hr) (me_v 0) me_int) (me_v 4) (me_op om_sub (me_ix (u1 hr) (me_ix (u1 hr) (me_v 0) me_int) (me_v 4)) (me_v 6)))) (mss_one (ms_if (mt_cmp (om_eq (u64 hr)) (me_v 2) me_str (nomark _)) (mss_cons (ms_sub (u1 hr) (me_ix (u1 hr) (me_v 0) me_int) (me_v 4) (me_op om_sub (me_ix (u1 hr) (me_ix (u1 hr) (me_v 0) me_int) (me_v 4)) (me_v 6)))
  (mss_one (ms_sub (u1 hr) (me_ix (u1 hr) (me_v 0) me_int) (me_v 5) (me_op om_add (me_ix (u1 hr) (me_ix (u1 hr) (me_v 0) me_int) (me_v 5)) (me_v 6))))) (mss_one (ms_if (mt_cmp (om_eq (u64 hr)) (me_v 2) me_str (nomark _)) (mss_cons (ms_sub (u1 hr) (me_ix (u1 hr) (me_v 0) me_int) (me_v 4) (me_op om_sub (me_ix (u1 hr) (me_ix (u1 hr) (me_v 0) me_int) (me_v 4)) (me_v 6)))
  (mss_one (ms_sub (u1 hr) (me_ix (u1 hr) (me_v 0) me_int) (me_v 7) (me_tup (ma_cons (me_v 4) (ma_cons (me_v 5) (ma_cons (me_v 6) ma_nil))))))) (mss_cons (ms_set 8 sc_law_apply.nd (by rfl) (by first | exact Or.inl rfl | exact Or.inr rfl) (me_dpop1 (me_ix (u1 hr) (me_v 0) me_int) (me_v 7)))
  (mss_cons (ms_set 9 sc_law_apply.nd (by rfl) (by first | exact Or.inl rfl | exact Or.inr rfl) (me_if (mt_cmp (om_eq (u64 hr)) (me_v 2) me_str (nomark _)) (me_ix (u1 hr) (me_v 8) me_int) (me_ix (u1 hr) (me_v 8) me_int)))
  (mss_one (ms_sub (u1 hr) (me_ix (u1 hr) (me_v 0) me_int) (me_v 9) (me_op om_add (me_ix (u1 hr) (me_ix (u1 hr) (me_v 0) me_int) (me_v 9)) (me_ix (u1 hr) (me_v 8) me_int)))))))))))))))))))
theorem sc_law_rich : FnScope ["cell", "k", "mixed"] ["cell", "k"] (defScope s_law_rich) := ⟨rfl, rfl, rfl, by decide +kernel, rfl, by decide +kernel, by decide +kernel⟩
theorem ok_law_rich (T : Tx P w K mg base Cs) (hf : FG K mg "_law_rich" "_law_rich" s_law_rich)  : Gn P w K mg base (Lx Cs) "_law_rich" 1 2 F_law_rich := by
  obtain ⟨f, fd, h1, F⟩ := hf
  refine ⟨f, h1, F.kp, fn_ok rfl F sc_law_rich (F.binds (ps := ["cell", "k"]) fun _ _ _ _ _ _ us hl => match us, hl with | [_, _], _ => rfl) rfl rfl fun cdv A outer s H E hr tk po => ?_⟩
  exact (mss_cons (ms_if (mt_cmp om_ge (me_v 0) (me_op om_pow me_int me_int) (nomark _)) (mss_one (ms_ret (me_ty cm_int (by rfl) T.b_int (by first | rfl | decide +kernel) (ma_cons (me_v 0) ma_nil)))) mss_nil)
  (mss_cons (ms_set 2 sc_law_rich.nd (by rfl) (by first | exact Or.inl rfl | exact Or.inr rfl) (me_op om_mod (me_ty cm_int (by rfl) T.b_int (by first | rfl | decide +kernel) (ma_cons (me_op om_add (me_op om_add (me_op om_mul (me_v 0) me_int) (me_op om_mul (me_v 1) me_int)) me_int) ma_nil)) me_int))
  (mss_one (ms_ret (me_op om_add (me_op om_mul (me_v 2) me_int) (me_op om_mod (me_ty cm_int (by rfl) T.b_int (by first | rfl | decide +kernel) (ma_cons (me_op om_add (me_op om_mul (me_v 2) me_int) (me_v 0)) ma_nil)) me_int))))))
theorem sc_law_amount : FnScope ["cell"] ["cell"] (defScope s_law_amount) := ⟨rfl, rfl, rfl, by decide +kernel, rfl, by decide +kernel, by decide +kernel⟩
theorem ok_law_amount (T : Tx P w K mg base Cs) (hf : FG K mg "_law_amount" "_law_amount" s_law_amount)  : Gn P w K mg base (Lx Cs) "_law_amount" 1 1 F_law_amount := by
  obtain ⟨f, fd, h1, F⟩ := hf
  refine ⟨f, h1, F.kp, fn_ok rfl F sc_law_amount (F.binds (ps := ["cell"]) fun _ _ _ _ _ _ us hl => match us, hl with | [_], _ => rfl) rfl rfl fun cdv A outer s H E hr tk po => ?_⟩
  exact (mss_cons (ms_if (mt_cmp om_lt (me_op om_mod (me_ty cm_int (by rfl) T.b_int (by first | rfl | decide +kernel) (ma_cons (me_v 0) ma_nil)) me_int) me_int (nomark _)) (mss_one (ms_ret (me_op om_mod (me_op om_fdiv (me_v 0) me_int) me_int))) mss_nil)
  (mss_cons (ms_if (mt_cmp (om_eq (u64 hr)) (me_op om_mod (me_op om_fdiv (me_v 0) me_int) me_int) me_int (nomark _)) (mss_one (ms_ret (me_op om_sub (me_op om_sub (me_op om_pow me_int me_int) me_int) (me_op om_mod (me_op om_fdiv (me_v 0) me_int) me_int)))) mss_nil)
  (mss_one (ms_ret (me_op om_mod (me_op om_fdiv (me_v 0) me_int) (me_op om_pow me_int me_int))))))
theorem sc_law_word : FnScope ["size", "chars", "seed", "step", "word", "rest", "k"] ["size", "chars", "seed", "step"] (defScope s_law_word) := ⟨rfl, rfl, rfl, by decide +kernel, rfl, by decide +kernel, by decide +kernel⟩
theorem ok_law_word (T : Tx P w K mg base Cs) (hf : FG K mg "_law_word" "_law_word" s_law_word)  : Gn P w K mg base (Lx Cs) "_law_word" 1 4 F_law_word := by
  obtain ⟨f, fd, h1, F⟩ := hf
  refine ⟨f, h1, F.kp, fn_ok rfl F sc_law_word (F.binds (ps := ["size", "chars", "seed", "step"]) fun _ _ _ _ _ _ us hl => match us, hl with | [_, _, _, _], _ => rfl) rfl rfl fun cdv A outer s H E hr tk po => ?_⟩
  exact (mss_cons (ms_set 4 sc_law_word.nd (by rfl) (by first | exact Or.inl rfl | exact Or.inr rfl) me_str)
  (mss_cons (ms_set 5 sc_law_word.nd (by rfl) (by first | exact Or.inl rfl | exact Or.inr rfl) (me_ty cm_int (by rfl) T.b_int (by first | rfl | decide +kernel) (ma_cons (me_v 2) ma_nil)))
  (mss_cons (ms_for po (by rfl) (gn_name _) (mi_range1 (by rfl) T.b_range (ma_cons (me_v 0) ma_nil)) (mg_name 6 sc_law_word.nd (by rfl) (by first | exact Or.inl rfl | exact Or.inr rfl)) (mss_cons (ms_set 4 sc_law_word.nd (by rfl) (by first | exact Or.inl rfl | exact Or.inr rfl) (me_op om_add (me_v 4) (me_ix (u1 hr) (me_v 1) (me_op om_mod (me_ty cm_int (by rfl) T.b_int (by first | rfl | decide +kernel) (ma_cons (me_op om_add (me_v 5) (me_op om_mul (me_v 6) (me_v 3))) ma_nil)) (me_bi cm_len (by rfl) T.b_len (by first | rfl | decide +kernel) (ma_cons (me_v 1) ma_nil))))))
  (mss_one (ms_set 5 sc_law_word.nd (by rfl) (by first | exact Or.inl rfl | exact Or.inr rfl) (me_op om_fdiv (me_v 5) (me_bi cm_len (by rfl) T.b_len (by first | rfl | decide +kernel) (ma_cons (me_v 1) ma_nil)))))))
  (mss_one (ms_ret (me_v 4))))))
theorem sc_law_key : FnScope ["cell", "size"] ["cell"] (defScope s_law_key) := ⟨rfl, rfl, rfl, by decide +kernel, rfl, by decide +kernel, by decide +kernel⟩
theorem ok_law_key (T : Tx P w K mg base Cs) (hf : FG K mg "_law_key" "_law_key" s_law_key) (G_law_word : Gn P w K mg base (Lx Cs) "_law_word" 1 4 F_law_word) : Gn P w K mg base (Lx Cs) "_law_key" 2 1 F_law_key := by
  obtain ⟨f, fd, h1, F⟩ := hf
  refine ⟨f, h1, F.kp, fn_ok rfl F sc_law_key (F.binds (ps := ["cell"]) fun _ _ _ _ _ _ us hl => match us, hl with | [_], _ => rfl) rfl rfl fun cdv A outer s H E hr tk po => ?_⟩
  exact (mss_cons (ms_if (mt_cmp om_lt (me_op om_mod (me_ty cm_int (by rfl) T.b_int (by first | rfl | decide +kernel) (ma_cons (me_v 0) ma_nil)) me_int) me_int (nomark _)) (mss_one (ms_ret (me_ix (u1 hr) (me_lst (ma_cons me_str (ma_cons me_str (ma_cons me_str ma_nil)))) (me_op om_mod (me_op om_fdiv (me_v 0) me_int) me_int)))) mss_nil)
  (mss_cons (ms_set 1 sc_law_key.nd (by rfl) (by first | exact Or.inl rfl | exact Or.inr rfl) (me_op om_add me_int (me_op om_mod (me_op om_fdiv (me_v 0) me_int) me_int)))
  (mss_one (ms_ret (me_call (Gn.ok G_law_word) tk (hr.mono (by decide)) (by rfl) (ma_cons (me_v 1) (ma_cons me_str (ma_cons (me_op om_fdiv (me_v 0) me_int) (ma_cons me_int ma_nil)))))))))
theorem sc_law_name : FnScope ["cell", "size"] ["cell"] (defScope s_law_name) := ⟨rfl, rfl, rfl, by decide +kernel, rfl, by decide +kernel, by decide +kernel⟩
theorem ok_law_name (T : Tx P w K mg base Cs) (hf : FG K mg "_law_name" "_law_name" s_law_name) (G_law_word : Gn P w K mg base (Lx Cs) "_law_word" 1 4 F_law_word) : Gn P w K mg base (Lx Cs) "_law_name" 2 1 F_law_name := by
  obtain ⟨f, fd, h1, F⟩ := hf
  refine ⟨f, h1, F.kp, fn_ok rfl F sc_law_name (F.binds (ps := ["cell"]) fun _ _ _ _ _ _ us hl => match us, hl with | [_], _ => rfl) rfl rfl fun cdv A outer s H E hr tk po => ?_⟩
  exact (mss_cons (ms_if (mt_cmp om_lt (me_op om_mod (me_ty cm_int (by rfl) T.b_int (by first | rfl | decide +kernel) (ma_cons (me_v 0) ma_nil)) me_int) me_int (nomark _)) (mss_one (ms_ret (me_ix (u1 hr) (me_lst (ma_cons me_str (ma_cons me_str (ma_cons me_str ma_nil)))) (me_op om_mod (me_op om_fdiv (me_v 0) me_int) me_int)))) mss_nil)
  (mss_cons (ms_set 1 sc_law_name.nd (by rfl) (by first | exact Or.inl rfl | exact Or.inr rfl) (me_op om_add me_int (me_op om_mod (me_op om_fdiv (me_v 0) me_int) me_int)))
  (mss_one (ms_ret (me_call (Gn.ok G_law_word) tk (hr.mono (by decide)) (by rfl) (ma_cons (me_v 1) (ma_cons me_str (ma_cons (me_op om_fdiv (me_v 0) me_int) (ma_cons me_int ma_nil)))))))))
theorem sc_law_op : FnScope ["cell", "k", "rich", "first", "second", "third", "verb", "amount"] ["cell", "k"] (defScope s_law_op) := ⟨rfl, rfl, rfl, by decide +kernel, rfl, by decide +kernel, by decide +kernel⟩
theorem ok_law_op (T : Tx P w K mg base Cs) (hf : FG K mg "_law_op" "_law_op" s_law_op) (G_law_rich : Gn P w K mg base (Lx Cs) "_law_rich" 1 2 F_law_rich) (G_law_amount : Gn P w K mg base (Lx Cs) "_law_amount" 1 1 F_law_amount) (G_law_key : Gn P w K mg base (Lx Cs) "_law_key" 2 1 F_law_key) (G_law_name : Gn P w K mg base (Lx Cs) "_law_name" 2 1 F_law_name) : Gn P w K mg base (Lx Cs) "_law_op" 3 2 F_law_op := by
  obtain ⟨f, fd, h1, F⟩ := hf
  refine ⟨f, h1, F.kp, fn_ok rfl F sc_law_op (F.binds (ps := ["cell", "k"]) fun _ _ _ _ _ _ us hl => match us, hl with | [_, _], _ => rfl) rfl rfl fun cdv A outer s H E hr tk po => ?_⟩
  exact (mss_cons (ms_set 2 sc_law_op.nd (by rfl) (by first | exact Or.inl rfl | exact Or.inr rfl) (me_call (Gn.ok G_law_rich) tk (hr.mono (by decide)) (by rfl) (ma_cons (me_v 0) (ma_cons (me_v 1) ma_nil))))
  (mss_cons (ms_set 3 sc_law_op.nd (by rfl) (by first | exact Or.inl rfl | exact Or.inr rfl) (me_op om_fdiv (me_v 2) me_int))
  (mss_cons (ms_set 4 sc_law_op.nd (by rfl) (by first | exact Or.inl rfl | exact Or.inr rfl) (me_op om_fdiv (me_v 2) me_int))
  (mss_cons (ms_set 5 sc_law_op.nd (by rfl) (by first | exact Or.inl rfl | exact Or.inr rfl) (me_op om_fdiv (me_v 2) me_int))
  (mss_cons (ms_set 6 sc_law_op.nd (by rfl) (by first | exact Or.inl rfl | exact Or.inr rfl) (me_ix (u1 hr) (me_lst (ma_cons me_str (ma_cons me_str (ma_cons me_str (ma_cons me_str (ma_cons me_str (ma_cons me_str (ma_cons me_str (ma_cons me_str (ma_cons me_str (ma_cons me_str ma_nil))))))))))) (me_op om_mod (me_v 2) me_int)))
  (mss_cons (ms_set 7 sc_law_op.nd (by rfl) (by first | exact Or.inl rfl | exact Or.inr rfl) (me_call (Gn.ok G_law_amount) tk (hr.mono (by decide)) (by rfl) (ma_cons (me_v 5) ma_nil)))
  (mss_cons (ms_if (mt_w (mw_and (mt_cmp (om_eq (u64 hr)) (me_v 6) me_str (nomark _)) (mw_and1 (mt_cmp (om_eq (u64 hr)) (me_op om_mod (me_op om_fdiv (me_v 5) me_int) me_int) me_int (nomark _))))) (mss_one (ms_set 7 sc_law_op.nd (by rfl) (by first | exact Or.inl rfl | exact Or.inr rfl) (me_op om_sub (me_op om_pow me_int me_int) (me_op om_mod (me_op om_fdiv (me_v 5) me_int) me_int)))) mss_nil)
  (mss_one (ms_ret (me_tup (ma_cons (me_v 6) (ma_cons (me_op om_sub (me_un um_neg me_int) (me_op om_mod (me_op om_fdiv (me_v 2) me_int) me_int)) (ma_cons (me_call (Gn.ok G_law_name) tk (hr.mono (by decide)) (by rfl) (ma_cons (me_v 3) ma_nil)) (ma_cons (me_call (Gn.ok G_law_name) tk (hr.mono (by decide)) (by rfl) (ma_cons (me_v 4) ma_nil)) (ma_cons (me_v 7) (ma_cons (me_call (Gn.ok G_law_key) tk (hr.mono (by decide)) (by rfl) (ma_cons (me_op om_fdiv (me_v 5) me_int) ma_nil)) ma_nil))))))))))))))))
theorem sc_law_close : FnScope ["model", "op", "key"] ["model", "op"] (defScope s_law_close) := ⟨rfl, rfl, rfl, by decide +kernel, rfl, by decide +kernel, by decide +kernel⟩
theorem ok_law_close (T : Tx P w K mg base Cs) (hf : FG K mg "_law_close" "_law_close" s_law_close)  : Gn P w K mg base (Lx Cs) "_law_close" 1 2 F_law_close := by
  obtain ⟨f, fd, h1, F⟩ := hf
  refine ⟨f, h1, F.kp, fn_ok rfl F sc_law_close (F.binds (ps := ["model", "op"]) fun _ _ _ _ _ _ us hl => match us, hl with | [_, _], _ => rfl) rfl rfl fun cdv A outer s H E hr tk po => ?_⟩
  exact (mss_cons (ms_if (mt_cmp (om_notIn (u65 hr)) (me_ix (u1 hr) (me_v 1) me_int) (me_ix (u1 hr) (me_v 0) me_int) (by with_unfolding_all rfl)) (mss_one (ms_ret me_str)) mss_nil)
  (mss_cons (ms_if (mt_cmp (om_ne (u64 hr)) (me_ix (u1 hr) (me_ix (u1 hr) (me_v 0) me_int) (me_ix (u1 hr) (me_v 1) me_int)) (me_ix (u1 hr) (me_v 1) me_int) (nomark _)) (mss_one (ms_ret me_str)) mss_nil)
  (mss_cons (ms_if (mt_cmp (om_ne (u64 hr)) (me_ix (u1 hr) (me_ix (u1 hr) (me_v 0) me_int) (me_ix (u1 hr) (me_v 1) me_int)) me_int (nomark _)) (mss_one (ms_ret me_str)) mss_nil)
  (mss_cons (ms_lock tk fun W tk => (ms_for po (by rfl) (gn_name _) (mi_keys (me_ix (u1 hr) (me_v 0) me_int)) (mg_name 2 sc_law_close.nd (by rfl) (by first | exact Or.inl rfl | exact Or.inr rfl)) (mss_one (ms_if (mt_cmp (om_in (u65 hr)) (me_ix (u1 hr) (me_v 1) me_int) (me_lst (ma_cons (me_ix (u1 hr) (me_ix (u1 hr) (me_ix (u1 hr) (me_v 0) me_int) (me_v 2)) me_int) (ma_cons (me_ix (u1 hr) (me_ix (u1 hr) (me_ix (u1 hr) (me_v 0) me_int) (me_v 2)) me_int) ma_nil))) (by with_unfolding_all rfl)) (mss_one (ms_ret me_str)) mss_nil))))
  (mss_one (ms_ret me_str))))))
theorem sc_law_funds : FnScope ["model", "client", "name", "amount"] ["model", "client", "name", "amount"] (defScope s_law_funds) := ⟨rfl, rfl, rfl, by decide +kernel, rfl, by decide +kernel, by decide +kernel⟩
theorem ok_law_funds (T : Tx P w K mg base Cs) (hf : FG K mg "_law_funds" "_law_funds" s_law_funds)  : Gn P w K mg base (Lx Cs) "_law_funds" 1 4 F_law_funds := by
  obtain ⟨f, fd, h1, F⟩ := hf
  refine ⟨f, h1, F.kp, fn_ok rfl F sc_law_funds (F.binds (ps := ["model", "client", "name", "amount"]) fun _ _ _ _ _ _ us hl => match us, hl with | [_, _, _, _], _ => rfl) rfl rfl fun cdv A outer s H E hr tk po => ?_⟩
  exact (mss_cons (ms_if (mt_cmp (om_ne (u64 hr)) (me_ix (u1 hr) (me_ix (u1 hr) (me_v 0) me_int) (me_v 2)) (me_v 1) (nomark _)) (mss_one (ms_ret me_str)) mss_nil)
  (mss_cons (ms_if (mt_cmp om_lt (me_ix (u1 hr) (me_ix (u1 hr) (me_v 0) me_int) (me_v 2)) (me_v 3) (nomark _)) (mss_one (ms_ret me_str)) mss_nil)
  (mss_one (ms_ret me_str))))
theorem sc_law_payment : FnScope ["model", "op"] ["model", "op"] (defScope s_law_payment) := ⟨rfl, rfl, rfl, by decide +kernel, rfl, by decide +kernel, by decide +kernel⟩
theorem ok_law_payment (T : Tx P w K mg base Cs) (hf : FG K mg "_law_payment" "_law_payment" s_law_payment) (G_law_funds : Gn P w K mg base (Lx Cs) "_law_funds" 1 4 F_law_funds) : Gn P w K mg base (Lx Cs) "_law_payment" 2 2 F_law_payment := by
  obtain ⟨f, fd, h1, F⟩ := hf
  refine ⟨f, h1, F.kp, fn_ok rfl F sc_law_payment (F.binds (ps := ["model", "op"]) fun _ _ _ _ _ _ us hl => match us, hl with | [_, _], _ => rfl) rfl rfl fun cdv A outer s H E hr tk po => ?_⟩
  exact (mss_cons (ms_if (mt_w (mw_or (mt_cmp (om_notIn (u65 hr)) (me_ix (u1 hr) (me_v 1) me_int) (me_ix (u1 hr) (me_v 0) me_int) (by with_unfolding_all rfl)) (mw_or1 (mt_cmp (om_notIn (u65 hr)) (me_ix (u1 hr) (me_v 1) me_int) (me_ix (u1 hr) (me_v 0) me_int) (by with_unfolding_all rfl))))) (mss_one (ms_ret me_str)) mss_nil)
  (mss_one (ms_ret (me_call (Gn.ok G_law_funds) tk (hr.mono (by decide)) (by rfl) (ma_cons (me_v 0) (ma_cons (me_ix (u1 hr) (me_v 1) me_int) (ma_cons (me_ix (u1 hr) (me_v 1) me_int) (ma_cons (me_ix (u1 hr) (me_v 1) me_int) ma_nil))))))))
theorem sc_law_reason : FnScope ["model", "op", "verb", "client", "name", "other", "amount", "key", "total", "one", "reason", "side"] ["model", "op"] (defScope s_law_reason) := ⟨rfl, rfl, rfl, by decide +kernel, rfl, by decide +kernel, by decide +kernel⟩
theorem ok_law_reason (T : Tx P w K mg base Cs) (hf : FG K mg "_law_reason" "_law_reason" s_law_reason) (G_law_close : Gn P w K mg base (Lx Cs) "_law_close" 1 2 F_law_close) (G_law_funds : Gn P w K mg base (Lx Cs) "_law_funds" 1 4 F_law_funds) (G_law_payment : Gn P w K mg base (Lx Cs) "_law_payment" 2 2 F_law_payment) : Gn P w K mg base (Lx Cs) "_law_reason" 3 2 F_law_reason := by
  obtain ⟨f, fd, h1, F⟩ := hf
  refine ⟨f, h1, F.kp, fn_ok rfl F sc_law_reason (F.binds (ps := ["model", "op"]) fun _ _ _ _ _ _ us hl => match us, hl with | [_, _], _ => rfl) rfl rfl fun cdv A outer s H E hr tk po => ?_⟩
  exact (mss_cons (ms_asg (gn_tup _) (me_v 1) (mg_tup [2, 3, 4, 5, 6, 7] (by rfl) (mgs_cons 2 sc_law_reason.nd (by rfl) (by first | exact Or.inl rfl | exact Or.inr rfl) (mgs_cons 3 sc_law_reason.nd (by rfl) (by first | exact Or.inl rfl | exact Or.inr rfl) (mgs_cons 4 sc_law_reason.nd (by rfl) (by first | exact Or.inl rfl | exact Or.inr rfl) (mgs_cons 5 sc_law_reason.nd (by rfl) (by first | exact Or.inl rfl | exact Or.inr rfl) (mgs_cons 6 sc_law_reason.nd (by rfl) (by first | exact Or.inl rfl | exact Or.inr rfl) (mgs_cons 7 sc_law_reason.nd (by rfl) (by first | exact Or.inl rfl | exact Or.inr rfl) mgs_nil))))))))
  (mss_cons (ms_if (mt_cmp (om_eq (u64 hr)) (me_v 2) me_str (nomark _)) (mss_cons (ms_if (mt_cmp (om_in (u65 hr)) (me_v 4) (me_ix (u1 hr) (me_v 0) me_int) (by with_unfolding_all rfl)) (mss_one (ms_ret me_str)) mss_nil)
  (mss_one (ms_ret (me_if (mt_cmp om_ge (me_bi cm_len (by rfl) T.b_len (by first | rfl | decide +kernel) (ma_cons (me_ix (u1 hr) (me_v 0) me_int) ma_nil)) me_int (nomark _)) me_str me_str)))) mss_nil)
  (mss_cons (ms_if (mt_cmp (om_eq (u64 hr)) (me_v 2) me_str (nomark _)) (mss_one (ms_ret (me_call (Gn.ok G_law_close) tk (hr.mono (by decide)) (by rfl) (ma_cons (me_v 0) (ma_cons (me_v 1) ma_nil))))) mss_nil)
  (mss_cons (ms_if (mt_cmp (om_eq (u64 hr)) (me_v 2) me_str (nomark _)) (mss_cons (ms_if (mt_cmp (om_ne (u64 hr)) (me_v 3) (me_un um_neg me_int) (nomark _)) (mss_one (ms_ret me_str)) mss_nil)
  (mss_cons (ms_if (mt_cmp (om_notIn (u65 hr)) (me_v 4) (me_ix (u1 hr) (me_v 0) me_int) (by with_unfolding_all rfl)) (mss_one (ms_ret me_str)) mss_nil)
  (mss_cons (ms_set 8 sc_law_reason.nd (by rfl) (by first | exact Or.inl rfl | exact Or.inr rfl) (me_op om_add (me_bi (cm_sum (by rfl)) (by rfl) T.b_sum (by first | rfl | decide +kernel) (ma_cons (me_vals (by rfl) (by rfl) T.b_list (me_ix (u1 hr) (me_v 0) me_int)) ma_nil)) (me_bi (cm_sum (by rfl)) (by rfl) T.b_sum (by first | rfl | decide +kernel) (ma_cons (me_lock (me_lc rfl [("one", 9)] (by rfl) sc_law_reason.nd (mi_keys (me_ix (u1 hr) (me_v 0) me_int)) (blkOk_by (N := ["model", "op", "verb", "client", "name", "other", "amount", "key", "total", "one", "reason", "side"]) (sc := defScope s_law_reason) (own := [("one", 9)]) (by decide +kernel)) (lcg_name 9) (fun _ _ _ _ _ => pg_name (by exact sc_law_reason.nd) (by rfl) (by first | exact Or.inl rfl | exact Or.inr rfl)) (fun _ _ _ _ _ => mts_nil) (fun _ _ _ _ _ => (me_ix (u1 hr) (me_ix (u1 hr) (me_ix (u1 hr) (me_v 0) me_int) (me_v 9)) me_int)))) ma_nil))))
  (mss_one (ms_ret (me_if (mt_cmp om_gt (me_op om_add (me_v 8) (me_v 6)) (me_op om_pow me_int me_int) (nomark _)) me_str me_str)))))) mss_nil)
  (mss_cons (ms_if (mt_cmp (om_eq (u64 hr)) (me_v 2) me_str (nomark _)) (mss_one (ms_ret (me_if (mt_cmp (om_in (u65 hr)) (me_v 4) (me_ix (u1 hr) (me_v 0) me_int) (by with_unfolding_all rfl)) (me_call (Gn.ok G_law_funds) tk (hr.mono (by decide)) (by rfl) (ma_cons (me_v 0) (ma_cons (me_v 3) (ma_cons (me_v 4) (ma_cons (me_v 6) ma_nil))))) me_str))) mss_nil)
  (mss_cons (ms_if (mt_w (mw_or (mt_cmp (om_eq (u64 hr)) (me_v 2) me_str (nomark _)) (mw_or1 (mt_cmp (om_eq (u64 hr)) (me_v 2) me_str (nomark _))))) (mss_cons (ms_set 10 sc_law_reason.nd (by rfl) (by first | exact Or.inl rfl | exact Or.inr rfl) (me_call (Gn.ok G_law_payment) tk (hr.mono (by decide)) (by rfl) (ma_cons (me_v 0) (ma_cons (me_v 1) ma_nil))))
  (mss_cons (ms_if (mt_w (mw_or (mt_cmp (om_ne (u64 hr)) (me_v 10) me_str (nomark _)) (mw_or1 (mt_cmp (om_eq (u64 hr)) (me_v 2) me_str (nomark _))))) (mss_one (ms_ret (me_v 10))) mss_nil)
  (mss_cons (ms_if (mt_cmp (om_in (u65 hr)) (me_v 7) (me_ix (u1 hr) (me_v 0) me_int) (by with_unfolding_all rfl)) (mss_one (ms_ret me_str)) mss_nil)
  (mss_one (ms_ret (me_if (mt_cmp om_ge (me_bi cm_len (by rfl) T.b_len (by first | rfl | decide +kernel) (ma_cons (me_ix (u1 hr) (me_v 0) me_int) ma_nil)) me_int (nomark _)) me_str me_str)))))) mss_nil)
  (mss_cons (ms_if (mt_cmp (om_notIn (u65 hr)) (me_v 7) (me_ix (u1 hr) (me_v 0) me_int) (by with_unfolding_all rfl)) (mss_one (ms_ret me_str)) mss_nil)
  (mss_cons (ms_set 11 sc_law_reason.nd (by rfl) (by first | exact Or.inl rfl | exact Or.inr rfl) (me_if (mt_cmp (om_eq (u64 hr)) (me_v 2) me_str (nomark _)) me_int me_int))
  (mss_one (ms_ret (me_if (mt_cmp (om_eq (u64 hr)) (me_ix (u1 hr) (me_ix (u1 hr) (me_v 0) me_int) (me_ix (u1 hr) (me_ix (u1 hr) (me_ix (u1 hr) (me_v 0) me_int) (me_v 7)) (me_v 11))) (me_v 3) (nomark _)) me_str me_str)))))))))))
theorem sc_Accounts_rows : FnScope ["self", "name"] ["self"] (defScope s_Accounts_rows) := ⟨rfl, rfl, rfl, by decide +kernel, rfl, by decide +kernel, by decide +kernel⟩
theorem ok_Accounts_rows (T : Tx P w K mg base Cs) (hf : FM K ((Lx Cs).ct 2) "rows" "Accounts.rows" s_Accounts_rows)  : Mn P w K mg base (Lx Cs) 2 "rows" 1 0 F_Accounts_rows := by
  obtain ⟨f, fd, hC, h1, F⟩ := hf
  refine ⟨hC, (show ("rows" : Str) ∉ flds.getD 2 [] by decide +kernel), f, h1, fn_ok rfl F sc_Accounts_rows (F.binds (ps := ["self"]) fun _ _ _ _ _ _ us hl => match us, hl with | [_], _ => rfl) rfl rfl fun cdv A outer s H E hr tk po => ?_⟩
  exact (mss_one (ms_ret (me_lc rfl [("name", 1)] (by rfl) sc_Accounts_rows.nd (mi_seq (me_bi (cm_sort (by rfl)) (by rfl) T.b_sorted (by first | rfl | decide +kernel) (ma_cons (me_fld T.fl_owners_ok (me_v 0)) ma_nil))) (blkOk_by (N := ["self", "name"]) (sc := defScope s_Accounts_rows) (own := [("name", 1)]) (by decide +kernel)) (lcg_name 1) (fun _ _ _ _ _ => pg_name (by exact sc_Accounts_rows.nd) (by rfl) (by first | exact Or.inl rfl | exact Or.inr rfl)) (fun _ _ _ _ _ => mts_nil) (fun _ _ _ _ _ => (me_tup (ma_cons (me_v 1) (ma_cons (me_ix (u1 hr) (me_fld T.fl_owners_ok (me_v 0)) (me_v 1)) (ma_cons (me_ix (u1 hr) (me_fld T.fl_balances_ok (me_v 0)) (me_v 1)) ma_nil))))))))
theorem sc_Accounts_held : FnScope ["self", "found", "key", "source", "target", "amount"] ["self"] (defScope s_Accounts_held) := ⟨rfl, rfl, rfl, by decide +kernel, rfl, by decide +kernel, by decide +kernel⟩
theorem ok_Accounts_held (T : Tx P w K mg base Cs) (hf : FM K ((Lx Cs).ct 2) "held" "Accounts.held" s_Accounts_held)  : Mn P w K mg base (Lx Cs) 2 "held" 1 0 F_Accounts_held := by
  obtain ⟨f, fd, hC, h1, F⟩ := hf
  refine ⟨hC, (show ("held" : Str) ∉ flds.getD 2 [] by decide +kernel), f, h1, fn_ok rfl F sc_Accounts_held (F.binds (ps := ["self"]) fun _ _ _ _ _ _ us hl => match us, hl with | [_], _ => rfl) rfl rfl fun cdv A outer s H E hr tk po => ?_⟩
  exact (mss_cons (ms_set 1 sc_Accounts_held.nd (by rfl) (by first | exact Or.inl rfl | exact Or.inr rfl) (me_lst ma_nil))
  (mss_cons (ms_for po (by rfl) (gn_name _) (mi_seq (me_bi (cm_sort (by rfl)) (by rfl) T.b_sorted (by first | rfl | decide +kernel) (ma_cons (me_fld T.fl_holds_ok (me_v 0)) ma_nil))) (mg_name 2 sc_Accounts_held.nd (by rfl) (by first | exact Or.inl rfl | exact Or.inr rfl)) (mss_cons (ms_asg (gn_tup _) (me_ix (u1 hr) (me_fld T.fl_holds_ok (me_v 0)) (me_v 2)) (mg_tup [3, 4, 5] (by rfl) (mgs_cons 3 sc_Accounts_held.nd (by rfl) (by first | exact Or.inl rfl | exact Or.inr rfl) (mgs_cons 4 sc_Accounts_held.nd (by rfl) (by first | exact Or.inl rfl | exact Or.inr rfl) (mgs_cons 5 sc_Accounts_held.nd (by rfl) (by first | exact Or.inl rfl | exact Or.inr rfl) mgs_nil)))))
  (mss_one (ms_expr (me_bm PySem.F.plainAttrs_list PySem.F.slot_list_append PySem.F.type_list_append tm_append (me_v 1) (ma_cons (me_tup (ma_cons (me_v 2) (ma_cons (me_v 3) (ma_cons (me_v 4) (ma_cons (me_v 5) ma_nil))))) ma_nil))))))
  (mss_one (ms_ret (me_v 1)))))
theorem sc_Accounts_supply : FnScope ["self"] ["self"] (defScope s_Accounts_supply) := ⟨rfl, rfl, rfl, by decide +kernel, rfl, by decide +kernel, by decide +kernel⟩
theorem ok_Accounts_supply (T : Tx P w K mg base Cs) (hf : FM K ((Lx Cs).ct 2) "supply" "Accounts.supply" s_Accounts_supply)  : Mn P w K mg base (Lx Cs) 2 "supply" 1 0 F_Accounts_supply := by
  obtain ⟨f, fd, hC, h1, F⟩ := hf
  refine ⟨hC, (show ("supply" : Str) ∉ flds.getD 2 [] by decide +kernel), f, h1, fn_ok rfl F sc_Accounts_supply (F.binds (ps := ["self"]) fun _ _ _ _ _ _ us hl => match us, hl with | [_], _ => rfl) rfl rfl fun cdv A outer s H E hr tk po => ?_⟩
  exact (mss_one (ms_ret (me_fld T.fl_total_ok (me_v 0))))
theorem sc_law_same : FnScope ["accounts", "model", "rows", "name", "held", "key", "total", "row", "owner", "balance"] ["accounts", "model"] (defScope s_law_same) := ⟨rfl, rfl, rfl, by decide +kernel, rfl, by decide +kernel, by decide +kernel⟩
theorem ok_law_same (T : Tx P w K mg base Cs) (hf : FG K mg "_law_same" "_law_same" s_law_same) (M_Accounts_rows : Mn P w K mg base (Lx Cs) 2 "rows" 1 0 F_Accounts_rows) (M_Accounts_held : Mn P w K mg base (Lx Cs) 2 "held" 1 0 F_Accounts_held) (M_Accounts_owner : Mn P w K mg base (Lx Cs) 2 "owner" 3 1 F_Accounts_owner) (M_Accounts_balance : Mn P w K mg base (Lx Cs) 2 "balance" 3 1 F_Accounts_balance) (M_Accounts_supply : Mn P w K mg base (Lx Cs) 2 "supply" 1 0 F_Accounts_supply) : Gn P w K mg base (Lx Cs) "_law_same" 4 2 F_law_same := by
  obtain ⟨f, fd, h1, F⟩ := hf
  refine ⟨f, h1, F.kp, fn_ok rfl F sc_law_same (F.binds (ps := ["accounts", "model"]) fun _ _ _ _ _ _ us hl => match us, hl with | [_, _], _ => rfl) rfl rfl fun cdv A outer s H E hr tk po => ?_⟩
  exact (mss_cons (ms_setLc rfl 2 [("name", 3)] (by rfl) sc_law_same.nd (by rfl) (by rfl) (sw_true rfl rfl rfl (by decide +kernel)) (mi_seq (me_bi (cm_sort (by rfl)) (by rfl) T.b_sorted (by first | rfl | decide +kernel) (ma_cons (me_ix (u1 hr) (me_v 1) me_int) ma_nil))) (blkOk_by (N := ["accounts", "model", "rows", "name", "held", "key", "total", "row", "owner", "balance"]) (sc := defScope s_law_same) (own := [("name", 3)]) (by decide +kernel)) (lcg_name 3) (fun _ _ _ _ _ => pg_name (by exact sc_law_same.nd) (by rfl) (by first | exact Or.inl rfl | exact Or.inr rfl)) (fun _ _ _ _ _ => mts_nil) (fun _ _ _ _ _ => (me_tup (ma_cons (me_v 3) (ma_cons (me_ix (u1 hr) (me_ix (u1 hr) (me_v 1) me_int) (me_v 3)) (ma_cons (me_ix (u1 hr) (me_ix (u1 hr) (me_v 1) me_int) (me_v 3)) ma_nil))))))
  (mss_cons (ms_setLc rfl 4 [("key", 5)] (by rfl) sc_law_same.nd (by rfl) (by rfl) (sw_true rfl rfl rfl (by decide +kernel)) (mi_seq (me_bi (cm_sort (by rfl)) (by rfl) T.b_sorted (by first | rfl | decide +kernel) (ma_cons (me_ix (u1 hr) (me_v 1) me_int) ma_nil))) (blkOk_by (N := ["accounts", "model", "rows", "name", "held", "key", "total", "row", "owner", "balance"]) (sc := defScope s_law_same) (own := [("key", 5)]) (by decide +kernel)) (lcg_name 5) (fun _ _ _ _ _ => pg_name (by exact sc_law_same.nd) (by rfl) (by first | exact Or.inl rfl | exact Or.inr rfl)) (fun _ _ _ _ _ => mts_nil) (fun _ _ _ _ _ => (me_tup (ma_cons (me_v 5) (ma_cons (me_ix (u1 hr) (me_ix (u1 hr) (me_ix (u1 hr) (me_v 1) me_int) (me_v 5)) me_int) (ma_cons (me_ix (u1 hr) (me_ix (u1 hr) (me_ix (u1 hr) (me_v 1) me_int) (me_v 5)) me_int) (ma_cons (me_ix (u1 hr) (me_ix (u1 hr) (me_ix (u1 hr) (me_v 1) me_int) (me_v 5)) me_int) ma_nil)))))))
  (mss_cons (ms_if (mt_w (mw_or (mt_cmp (om_ne (u64 hr)) (me_meth0 (Mn.ok M_Accounts_rows) tk (hr.mono (by decide)) (me_v 0)) (me_v 2) (nomark _)) (mw_or1 (mt_cmp (om_ne (u64 hr)) (me_meth0 (Mn.ok M_Accounts_held) tk (hr.mono (by decide)) (me_v 0)) (me_v 4) (nomark _))))) (mss_one (ms_ret me_bl)) mss_nil)
  (mss_cons (ms_set 6 sc_law_same.nd (by rfl) (by first | exact Or.inl rfl | exact Or.inr rfl) (me_op om_add (me_bi (cm_sum (by rfl)) (by rfl) T.b_sum (by first | rfl | decide +kernel) (ma_cons (me_lc rfl [("row", 7)] (by rfl) sc_law_same.nd (mi_seq (me_v 2)) (blkOk_by (N := ["accounts", "model", "rows", "name", "held", "key", "total", "row", "owner", "balance"]) (sc := defScope s_law_same) (own := [("row", 7)]) (by decide +kernel)) (lcg_name 7) (fun _ _ _ _ _ => pg_name (by exact sc_law_same.nd) (by rfl) (by first | exact Or.inl rfl | exact Or.inr rfl)) (fun _ _ _ _ _ => mts_nil) (fun _ _ _ _ _ => (me_ix (u1 hr) (me_v 7) me_int))) ma_nil)) (me_bi (cm_sum (by rfl)) (by rfl) T.b_sum (by first | rfl | decide +kernel) (ma_cons (me_lc rfl [("row", 7)] (by rfl) sc_law_same.nd (mi_seq (me_v 4)) (blkOk_by (N := ["accounts", "model", "rows", "name", "held", "key", "total", "row", "owner", "balance"]) (sc := defScope s_law_same) (own := [("row", 7)]) (by decide +kernel)) (lcg_name 7) (fun _ _ _ _ _ => pg_name (by exact sc_law_same.nd) (by rfl) (by first | exact Or.inl rfl | exact Or.inr rfl)) (fun _ _ _ _ _ => mts_nil) (fun _ _ _ _ _ => (me_ix (u1 hr) (me_v 7) me_int))) ma_nil))))
  (mss_cons (ms_for po (by rfl) (gn_tup _) (mi_seq (me_sl (me_v 2) mo_none (mo_some me_int))) (mg_tup [3, 8, 9] (by rfl) (mgs_cons 3 sc_law_same.nd (by rfl) (by first | exact Or.inl rfl | exact Or.inr rfl) (mgs_cons 8 sc_law_same.nd (by rfl) (by first | exact Or.inl rfl | exact Or.inr rfl) (mgs_cons 9 sc_law_same.nd (by rfl) (by first | exact Or.inl rfl | exact Or.inr rfl) mgs_nil)))) (mss_one (ms_if (mt_w (mw_or (mt_cmp (om_ne (u64 hr)) (me_meth (Mn.ok M_Accounts_owner) tk (hr.mono (by decide)) (me_v 0) (ma_cons (me_v 3) ma_nil)) (me_v 8) (nomark _)) (mw_or1 (mt_cmp (om_ne (u64 hr)) (me_meth (Mn.ok M_Accounts_balance) tk (hr.mono (by decide)) (me_v 0) (ma_cons (me_v 3) ma_nil)) (me_v 9) (nomark _))))) (mss_one (ms_ret me_bl)) mss_nil)))
  (mss_one (ms_ret (me_cmp (om_eq (u64 hr)) (me_meth0 (Mn.ok M_Accounts_supply) tk (hr.mono (by decide)) (me_v 0)) (me_v 6) (nomark _)))))))))
theorem sc_law_missing : FnScope ["accounts", "name", "told", "k", "e"] ["accounts", "name"] (defScope s_law_missing) := ⟨rfl, rfl, rfl, by decide +kernel, rfl, by decide +kernel, by decide +kernel⟩
theorem ok_law_missing (T : Tx P w K mg base Cs) (hf : FG K mg "_law_missing" "_law_missing" s_law_missing) (M_Accounts_balance : Mn P w K mg base (Lx Cs) 2 "balance" 3 1 F_Accounts_balance) (M_Accounts_owner : Mn P w K mg base (Lx Cs) 2 "owner" 3 1 F_Accounts_owner) : Gn P w K mg base (Lx Cs) "_law_missing" 4 2 F_law_missing := by
  obtain ⟨f, fd, h1, F⟩ := hf
  refine ⟨f, h1, F.kp, fn_ok rfl F sc_law_missing (F.binds (ps := ["accounts", "name"]) fun _ _ _ _ _ _ us hl => match us, hl with | [_, _], _ => rfl) rfl rfl fun cdv A outer s H E hr tk po => ?_⟩
  exact (mss_cons (ms_set 2 sc_law_missing.nd (by rfl) (by first | exact Or.inl rfl | exact Or.inr rfl) (me_lst ma_nil))
  (mss_cons (ms_for po (by rfl) (gn_name _) (mi_range1 (by rfl) T.b_range (ma_cons me_int ma_nil)) (mg_name 3 sc_law_missing.nd (by rfl) (by first | exact Or.inl rfl | exact Or.inr rfl)) (mss_one (ms_tryAs rfl (by rfl) (by rfl) sc_law_missing.nd (by rfl) (by rfl) tk (ExT.mk1 ⟨by rfl, by decide, Or.inl T.mg_LedgerError⟩ T.ext_LedgerError_ok) (fun W pn xe tk po => (mss_one (ms_if (mt_cmp (om_eq (u64 hr)) (me_v 3) me_int (nomark _)) (mss_one (ms_expr (me_meth (Mn.ok M_Accounts_balance) tk (hr.mono (by decide)) (me_v 0) (ma_cons (me_v 1) ma_nil)))) (mss_one (ms_expr (me_meth (Mn.ok M_Accounts_owner) tk (hr.mono (by decide)) (me_v 0) (ma_cons (me_v 1) ma_nil))))))) (fun a oe cls d pn x hcl hz hf => (mss_one (ms_expr (me_bm PySem.F.plainAttrs_list PySem.F.slot_list_append PySem.F.type_list_append tm_append (me_v 2) (ma_cons (me_and (me_xis (T.xis_Refused_ok _ rfl) hcl hz hf (by rfl) (by first | exact Or.inl rfl | exact Or.inr (Or.inl rfl) | exact Or.inr (Or.inr rfl)) (by rfl) T.b_isinstance (pe_glob (v := .ref ((Lx Cs).ct 1)) (by rfl) T.mg_Refused rfl) (fun _ h => h)) (me_one (me_xis (T.xis_ValueError_ok _ rfl) hcl hz hf (by rfl) (by first | exact Or.inl rfl | exact Or.inr (Or.inl rfl) | exact Or.inr (Or.inr rfl)) (by rfl) T.b_isinstance (pe_bltn (v := .ty "ValueError") (by rfl) T.b_ValueError (by first | rfl | decide +kernel) rfl) (fun _ h => h)))) ma_nil))))))))
  (mss_one (ms_ret (me_cmp (om_eq (u64 hr)) (me_v 2) (me_lst (ma_cons me_bl (ma_cons me_bl ma_nil))) (nomark _))))))
theorem sc_law_strange : FnScope ["model", "letters", "k", "name"] ["model"] (defScope s_law_strange) := ⟨rfl, rfl, rfl, by decide +kernel, rfl, by decide +kernel, by decide +kernel⟩
theorem ok_law_strange (T : Tx P w K mg base Cs) (hf : FG K mg "_law_strange" "_law_strange" s_law_strange)  : Gn P w K mg base (Lx Cs) "_law_strange" 1 1 F_law_strange := by
  obtain ⟨f, fd, h1, F⟩ := hf
  refine ⟨f, h1, F.kp, fn_ok rfl F sc_law_strange (F.binds (ps := ["model"]) fun _ _ _ _ _ _ us hl => match us, hl with | [_], _ => rfl) rfl rfl fun cdv A outer s H E hr tk po => ?_⟩
  exact (mss_cons (ms_set 1 sc_law_strange.nd (by rfl) (by first | exact Or.inl rfl | exact Or.inr rfl) me_str)
  (mss_cons (ms_for po (by rfl) (gn_name _) (mi_range1 (by rfl) T.b_range (ma_cons me_int ma_nil)) (mg_name 2 sc_law_strange.nd (by rfl) (by first | exact Or.inl rfl | exact Or.inr rfl)) (mss_cons (ms_set 3 sc_law_strange.nd (by rfl) (by first | exact Or.inl rfl | exact Or.inr rfl) (me_op om_add (me_op om_add me_str (me_ix (u1 hr) (me_v 1) (me_op om_fdiv (me_v 2) me_int))) (me_ix (u1 hr) (me_v 1) (me_op om_mod (me_v 2) me_int))))
  (mss_one (ms_if (mt_cmp (om_notIn (u65 hr)) (me_v 3) (me_ix (u1 hr) (me_v 0) me_int) (by with_unfolding_all rfl)) (mss_one (ms_ret (me_v 3))) mss_nil))))
  (mss_one (ms_ret me_str))))
theorem sc_law : FnScope ["script", "accounts", "model", "k", "name", "op", "due"] ["script"] (defScope s_law) := ⟨rfl, rfl, rfl, by decide +kernel, rfl, by decide +kernel, by decide +kernel⟩
theorem ok_law (T : Tx P w K mg base Cs) {f : Addr} {fd : FuncData} (F : Fun K "law" "law" s_law f fd) (K_Accounts_init : Kn P w K mg base (Lx Cs) "Accounts" 1 2 4 0 F_Accounts_init) (G_law_call : Gn P w K mg base (Lx Cs) "_law_call" 7 2 F_law_call) (G_law_apply : Gn P w K mg base (Lx Cs) "_law_apply" 1 2 F_law_apply) (G_law_op : Gn P w K mg base (Lx Cs) "_law_op" 3 2 F_law_op) (G_law_reason : Gn P w K mg base (Lx Cs) "_law_reason" 3 2 F_law_reason) (G_law_same : Gn P w K mg base (Lx Cs) "_law_same" 4 2 F_law_same) (G_law_missing : Gn P w K mg base (Lx Cs) "_law_missing" 4 2 F_law_missing) (G_law_strange : Gn P w K mg base (Lx Cs) "_law_strange" 1 1 F_law_strange) : FnOk P w K mg base (L2.CX P w) 8 f fd ["script"] (spM K (Lx Cs) 1 F_law) := by
  refine fn_okX rfl F sc_law (F.binds (ps := ["script"]) fun _ _ _ _ _ _ us hl => match us, hl with | [_], _ => rfl) rfl rfl fun cdv A outer s H E hr tk po => ?_
  exact (mss_cons (ms_set 1 sc_law.nd (by rfl) (by first | exact Or.inl rfl | exact Or.inr rfl) (me_make0 (Kn.ok K_Accounts_init) tk (hr.mono (by decide)) (by rfl)))
  (mss_cons (ms_set 2 sc_law.nd (by rfl) (by first | exact Or.inl rfl | exact Or.inr rfl) (me_lst (ma_cons me_dnew (ma_cons me_dnew (ma_cons me_dnew ma_nil)))))
  (mss_cons (ms_if (mt_cmp (om_ne (u64 hr)) (me_lst (ma_cons (me_const (by rfl) T.k_SUPPLY_LIMIT) (ma_cons (me_const (by rfl) T.k_ACCOUNT_LIMIT) (ma_cons (me_const (by rfl) T.k_HOLD_LIMIT) ma_nil)))) (me_lst (ma_cons (me_op om_pow me_int me_int) (ma_cons me_int (ma_cons me_int ma_nil)))) (nomark _)) (mss_one (ms_ret me_bl)) mss_nil)
  (mss_cons (ms_if (mt_w (mw_and (mt_cmp om_gt (me_bi cm_len (by rfl) T.b_len (by first | rfl | decide +kernel) (ma_cons (me_v 0) ma_nil)) me_int (nomark _)) (mw_and1 (mt_cmp (om_eq (u64 hr)) (me_op om_mod (me_ty cm_int (by rfl) T.b_int (by first | rfl | decide +kernel) (ma_cons (me_ix (u1 hr) (me_v 0) me_int) ma_nil)) me_int) me_int (nomark _))))) (mss_one (ms_for po (by rfl) (gn_name _) (mi_range1 (by rfl) T.b_range (ma_cons (me_op om_add me_int (me_op om_mod (me_op om_fdiv (me_ty cm_int (by rfl) T.b_int (by first | rfl | decide +kernel) (ma_cons (me_ix (u1 hr) (me_v 0) me_int) ma_nil)) me_int) me_int)) ma_nil)) (mg_name 3 sc_law.nd (by rfl) (by first | exact Or.inl rfl | exact Or.inr rfl)) (mss_cons (ms_set 4 sc_law.nd (by rfl) (by first | exact Or.inl rfl | exact Or.inr rfl) (me_op om_add (me_op om_add me_str (me_ix (u1 hr) me_str (me_op om_fdiv (me_v 3) me_int))) (me_ix (u1 hr) me_str (me_op om_mod (me_v 3) me_int))))
  (mss_one (ms_for po (by rfl) (gn_name _) (mi_seq (me_lst (ma_cons (me_tup (ma_cons me_str (ma_cons (me_un um_neg me_int) (ma_cons (me_v 4) (ma_cons me_str (ma_cons me_int (ma_cons me_str ma_nil))))))) (ma_cons (me_tup (ma_cons me_str (ma_cons (me_un um_neg me_int) (ma_cons (me_v 4) (ma_cons (me_v 4) (ma_cons me_int (ma_cons (me_v 4) ma_nil))))))) ma_nil)))) (mg_name 5 sc_law.nd (by rfl) (by first | exact Or.inl rfl | exact Or.inr rfl)) (mss_cons (ms_if (mt_cmp (om_ne (u64 hr)) (me_call (Gn.ok G_law_call) tk (hr.mono (by decide)) (by rfl) (ma_cons (me_v 1) (ma_cons (me_v 5) ma_nil))) me_str (nomark _)) (mss_one (ms_ret me_bl)) mss_nil)
  (mss_one (ms_expr (me_call (Gn.ok G_law_apply) tk (hr.mono (by decide)) (by rfl) (ma_cons (me_v 2) (ma_cons (me_v 5) ma_nil))))))))))) mss_nil)
  (mss_cons (ms_for po (by rfl) (gn_name _) (mi_range1 (by rfl) T.b_range (ma_cons (me_bi cm_len (by rfl) T.b_len (by first | rfl | decide +kernel) (ma_cons (me_v 0) ma_nil)) ma_nil)) (mg_name 3 sc_law.nd (by rfl) (by first | exact Or.inl rfl | exact Or.inr rfl)) (mss_cons (ms_set 5 sc_law.nd (by rfl) (by first | exact Or.inl rfl | exact Or.inr rfl) (me_call (Gn.ok G_law_op) tk (hr.mono (by decide)) (by rfl) (ma_cons (me_ix (u1 hr) (me_v 0) (me_v 3)) (ma_cons (me_v 3) ma_nil))))
  (mss_cons (ms_set 6 sc_law.nd (by rfl) (by first | exact Or.inl rfl | exact Or.inr rfl) (me_call (Gn.ok G_law_reason) tk (hr.mono (by decide)) (by rfl) (ma_cons (me_v 2) (ma_cons (me_v 5) ma_nil))))
  (mss_cons (ms_if (mt_cmp (om_ne (u64 hr)) (me_call (Gn.ok G_law_call) tk (hr.mono (by decide)) (by rfl) (ma_cons (me_v 1) (ma_cons (me_v 5) ma_nil))) (me_v 6) (nomark _)) (mss_one (ms_ret me_bl)) mss_nil)
  (mss_cons (ms_if (mt_cmp (om_eq (u64 hr)) (me_v 6) me_str (nomark _)) (mss_one (ms_expr (me_call (Gn.ok G_law_apply) tk (hr.mono (by decide)) (by rfl) (ma_cons (me_v 2) (ma_cons (me_v 5) ma_nil))))) mss_nil)
  (mss_one (ms_if (mt_not (mt_val (me_call (Gn.ok G_law_same) tk (hr.mono (by decide)) (by rfl) (ma_cons (me_v 1) (ma_cons (me_v 2) ma_nil))))) (mss_one (ms_ret me_bl)) mss_nil)))))))
  (mss_one (ms_ret (me_call (Gn.ok G_law_missing) tk (hr.mono (by decide)) (by rfl) (ma_cons (me_v 1) (ma_cons (me_call (Gn.ok G_law_strange) tk (hr.mono (by decide)) (by rfl) (ma_cons (me_v 2) ma_nil)) ma_nil))))))))))
end
end Lw

set_option Elab.async false
set_option linter.all false
set_option maxRecDepth 100000
set_option maxHeartbeats 4000000
set_option autoImplicit false
/-! the end -/
namespace Lw
open PySem PySem.Spec L2 Mi PyProof.Rows
theorem all_mk {w : World} {K : PySem.W.Frag} {h : Heap} {mg : Str → Option Value} {fa : Addr} {C0 C1 C2 : Addr} {t_ACCOUNT_LIMIT t_HOLD_LIMIT t_MINT t_SUPPLY_LIMIT : Tok} (KX : K.In h) (G : h.Ns mainGlobals mg) (hfa : mg "law" = some (.ref fa))
    (aC0 : PySem.W.nsIn K mainGlobals "LedgerError" = some (some (.ref C0)))
    (aC1 : PySem.W.nsIn K mainGlobals "Refused" = some (some (.ref C1)))
    (aC2 : PySem.W.nsIn K mainGlobals "Accounts" = some (some (.ref C2)))
    (cl2 : Cls K C2)
    (na2_balances : PySem.W.findIn K (.ref C2) "balances" = some none)
    (na2_holds : PySem.W.findIn K (.ref C2) "holds" = some none)
    (na2_owners : PySem.W.findIn K (.ref C2) "owners" = some none)
    (na2_total : PySem.W.findIn K (.ref C2) "total" = some none)
    (x_Accounts_init : FI K C2 "Accounts.__init__" s_Accounts_init)
    (x_Accounts_create : FM K C2 "create" "Accounts.create" s_Accounts_create)
    (x_Accounts_owner : FM K C2 "owner" "Accounts.owner" s_Accounts_owner)
    (x_Accounts_close : FM K C2 "close" "Accounts.close" s_Accounts_close)
    (x_Accounts_balance : FM K C2 "balance" "Accounts.balance" s_Accounts_balance)
    (x_Accounts_issue : FM K C2 "issue" "Accounts.issue" s_Accounts_issue)
    (x_Accounts_check_funds : FM K C2 "_check_funds" "Accounts._check_funds" s_Accounts_check_funds)
    (x_Accounts_burn : FM K C2 "burn" "Accounts.burn" s_Accounts_burn)
    (x_Accounts_check_payment : FM K C2 "_check_payment" "Accounts._check_payment" s_Accounts_check_payment)
    (x_Accounts_pay : FM K C2 "pay" "Accounts.pay" s_Accounts_pay)
    (x_Accounts_hold : FM K C2 "hold" "Accounts.hold" s_Accounts_hold)
    (x_Accounts_settle : FM K C2 "settle" "Accounts.settle" s_Accounts_settle)
    (x_Accounts_release : FM K C2 "release" "Accounts.release" s_Accounts_release)
    (x_law_call : FG K mg "_law_call" "_law_call" s_law_call)
    (x_law_apply : FG K mg "_law_apply" "_law_apply" s_law_apply)
    (x_law_rich : FG K mg "_law_rich" "_law_rich" s_law_rich)
    (x_law_amount : FG K mg "_law_amount" "_law_amount" s_law_amount)
    (x_law_word : FG K mg "_law_word" "_law_word" s_law_word)
    (x_law_key : FG K mg "_law_key" "_law_key" s_law_key)
    (x_law_name : FG K mg "_law_name" "_law_name" s_law_name)
    (x_law_op : FG K mg "_law_op" "_law_op" s_law_op)
    (x_law_close : FG K mg "_law_close" "_law_close" s_law_close)
    (x_law_funds : FG K mg "_law_funds" "_law_funds" s_law_funds)
    (x_law_payment : FG K mg "_law_payment" "_law_payment" s_law_payment)
    (x_law_reason : FG K mg "_law_reason" "_law_reason" s_law_reason)
    (x_Accounts_rows : FM K C2 "rows" "Accounts.rows" s_Accounts_rows)
    (x_Accounts_held : FM K C2 "held" "Accounts.held" s_Accounts_held)
    (x_Accounts_supply : FM K C2 "supply" "Accounts.supply" s_Accounts_supply)
    (x_law_same : FG K mg "_law_same" "_law_same" s_law_same)
    (x_law_missing : FG K mg "_law_missing" "_law_missing" s_law_missing)
    (x_law_strange : FG K mg "_law_strange" "_law_strange" s_law_strange)
    (x_law : FG K mg "law" "law" s_law)
    (b_ValueError : PySem.W.nsIn K mainGlobals "ValueError" = some none)
    (b_int : PySem.W.nsIn K mainGlobals "int" = some none)
    (b_isinstance : PySem.W.nsIn K mainGlobals "isinstance" = some none)
    (b_len : PySem.W.nsIn K mainGlobals "len" = some none)
    (b_list : PySem.W.nsIn K mainGlobals "list" = some none)
    (b_range : PySem.W.nsIn K mainGlobals "range" = some none)
    (b_sorted : PySem.W.nsIn K mainGlobals "sorted" = some none)
    (b_sum : PySem.W.nsIn K mainGlobals "sum" = some none)
    (k_ACCOUNT_LIMIT : PySem.W.nsIn K mainGlobals "ACCOUNT_LIMIT" = some (some (.int 100 t_ACCOUNT_LIMIT)))
    (k_HOLD_LIMIT : PySem.W.nsIn K mainGlobals "HOLD_LIMIT" = some (some (.int 100 t_HOLD_LIMIT)))
    (k_MINT : PySem.W.nsIn K mainGlobals "MINT" = some (some (.int (-1) t_MINT)))
    (k_SUPPLY_LIMIT : PySem.W.nsIn K mainGlobals "SUPPLY_LIMIT" = some (some (.int 1000000000000000 t_SUPPLY_LIMIT)))
    (fx_Refused : FX K C1 "Refused.__init__" s_Refused_init)
    (nx1_reason : PySem.W.findIn K (.ref C1) "reason" = some none)
    (hd0 : PySem.W.hasDictIn K C0 = true)
    (ty0 : PySem.W.typeIn K (.ref C0) = some (.type "type"))
    (be0 : PySem.W.subIn K (.ref C0) (.type "BaseException") = some true)
    (ss0 : PySem.W.subIn K (.ref C0) (.ref C0) = some true)
    (sb1_0 : PySem.W.subIn K (.ref C1) (.ref C0) = some true)
    (hd1 : PySem.W.hasDictIn K C1 = true)
    (ty1 : PySem.W.typeIn K (.ref C1) = some (.type "type"))
    (be1 : PySem.W.subIn K (.ref C1) (.type "BaseException") = some true)
    (ss1 : PySem.W.subIn K (.ref C1) (.ref C1) = some true)
    (sb1_1 : PySem.W.subIn K (.ref C1) (.ref C1) = some true)
    (ec1 : ExcC K C1)
    (st1_ValueError : PySem.W.subIn K (.ref C1) (.type "ValueError") = some true)
    (xf1 : XfC K C1)
    : ∃ fd : FuncData, (∀ (s : Shared) (v : Value), BindsTo s fd ⟨[v], []⟩ [("script", v)]) ∧ ∀ base : Heap, K.In base → base.Ns mainGlobals mg → FnOk PySem.Challenge.rw_oathledger_k46_accounts_step_by_step.prog w K mg base (L2.CX PySem.Challenge.rw_oathledger_k46_accounts_step_by_step.prog w) 8 fa fd ["script"] (spEnd K) := by
  obtain ⟨f, fd, h1, F⟩ := x_law
  have e := hfa.symm.trans h1
  cases e
  refine ⟨fd, fun s v => fun_binds1 F (fun _ _ _ _ _ _ _ => rfl) s v, fun base _ _ => law_end (L := Lx [C0, C1, C2]) (?_ : FnOk _ w K mg base _ _ fa fd _ _) law_true⟩
  have xn_Refused : Xn PySem.Challenge.rw_oathledger_k46_accounts_step_by_step.prog w K mg base (Lx [C0, C1, C2]) "Refused" 1 ["reason"] 1 := by
    obtain ⟨fI, fdI, o, a, t, FI⟩ := fx_Refused
    have sc : FnScope ["self", "reason"] ["self", "reason"] (defScope s_Refused_init) := ⟨rfl, rfl, rfl, by decide +kernel, rfl, by decide +kernel, by decide +kernel⟩
    have b := FI.binds (ps := ["self", "reason"]) fun _ _ _ _ _ _ us hl => match us, hl with | [_, _], _ => rfl
    exact ⟨PySem.W.mg_of KX G aC1, o, rfl, ⟨by decide, by decide +kernel, by intro z; cases z⟩, fI, fdI, ["self", "reason"], a, t, xi_one FI sc b rfl (by decide) o nx1_reason fun cdv A outer s H E => pss_one (ps_ost (pe_var (i := 0) (by rfl) (by first | exact Or.inl rfl | exact Or.inr (Or.inl rfl) | exact Or.inr (Or.inr rfl))) (pe_var (i := 1) (by rfl) (by first | exact Or.inl rfl | exact Or.inr (Or.inl rfl) | exact Or.inr (Or.inr rfl)))), b⟩
  have T : Tx PySem.Challenge.rw_oathledger_k46_accounts_step_by_step.prog w K mg base [C0, C1, C2] := by
    constructor
    · exact PySem.W.mg_none_of KX G b_ValueError
    · exact PySem.W.mg_none_of KX G b_int
    · exact PySem.W.mg_none_of KX G b_isinstance
    · exact PySem.W.mg_none_of KX G b_len
    · exact PySem.W.mg_none_of KX G b_list
    · exact PySem.W.mg_none_of KX G b_range
    · exact PySem.W.mg_none_of KX G b_sorted
    · exact PySem.W.mg_none_of KX G b_sum
    · exact ⟨_, PySem.W.mg_of KX G k_ACCOUNT_LIMIT, ConstV.int _ _⟩
    · exact ⟨_, PySem.W.mg_of KX G k_HOLD_LIMIT, ConstV.int _ _⟩
    · exact ⟨_, PySem.W.mg_of KX G k_MINT, ConstV.int _ _⟩
    · exact ⟨_, PySem.W.mg_of KX G k_SUPPLY_LIMIT, ConstV.int _ _⟩
    · exact (FldOk.cons rfl cl2 na2_balances FldOk.nil)
    · exact (FldOk.cons rfl cl2 na2_holds FldOk.nil)
    · exact (FldOk.cons rfl cl2 na2_owners FldOk.nil)
    · exact (FldOk.cons rfl cl2 na2_total FldOk.nil)
    · exact PySem.W.mg_of KX G aC0
    · exact PySem.W.mg_of KX G aC1
    · exact xn_Refused
    · intro p hp
      simp only [ext_LedgerError, List.mem_cons, List.not_mem_nil, or_false] at hp
      rcases hp with rfl
      · exact PySem.W.exm_ref be0 hd0 ty0 sb1_0
    · intro p hp
      simp only [ext_Refused, List.mem_cons, List.not_mem_nil, or_false] at hp
      rcases hp with rfl
      · exact PySem.W.exm_ref be1 hd1 ty1 sb1_1
    · intro Xx hX
      subst hX
      refine XisT.mk1 ?_
      intro p hp
      simp only [xis_Refused, List.mem_cons, List.not_mem_nil, or_false] at hp
      rcases hp with rfl
      · exact ⟨ec1, kit_own hd1 ty1 ss1 sb1_1⟩
    · intro Xx hX
      subst hX
      refine XisT.mk1 ?_
      intro p hp
      simp only [xis_ValueError, List.mem_cons, List.not_mem_nil, or_false] at hp
      rcases hp with rfl
      · exact ⟨ec1, kit_typ (by decide +kernel) st1_ValueError⟩
    · intro Xx hX
      subst hX
      refine XfT.mk1 ?_
      intro p hp
      simp only [xf_reason, List.mem_cons, List.not_mem_nil, or_false] at hp
      rcases hp with rfl
      · exact ⟨rfl, xf1, nx1_reason⟩
  have K_Accounts_init := ok_Accounts_init T x_Accounts_init (PySem.W.mg_of KX G aC2) 
  have M_Accounts_create := ok_Accounts_create T x_Accounts_create 
  have M_Accounts_owner := ok_Accounts_owner T x_Accounts_owner 
  have M_Accounts_close := ok_Accounts_close T x_Accounts_close M_Accounts_owner
  have M_Accounts_balance := ok_Accounts_balance T x_Accounts_balance 
  have M_Accounts_issue := ok_Accounts_issue T x_Accounts_issue M_Accounts_balance
  have M_Accounts_check_funds := ok_Accounts_check_funds T x_Accounts_check_funds M_Accounts_owner
  have M_Accounts_burn := ok_Accounts_burn T x_Accounts_burn M_Accounts_check_funds
  have M_Accounts_check_payment := ok_Accounts_check_payment T x_Accounts_check_payment M_Accounts_check_funds
  have M_Accounts_pay := ok_Accounts_pay T x_Accounts_pay M_Accounts_check_payment
  have M_Accounts_hold := ok_Accounts_hold T x_Accounts_hold M_Accounts_check_payment
  have M_Accounts_settle := ok_Accounts_settle T x_Accounts_settle 
  have M_Accounts_release := ok_Accounts_release T x_Accounts_release 
  have G_law_call := ok_law_call T x_law_call M_Accounts_create M_Accounts_close M_Accounts_issue M_Accounts_burn M_Accounts_pay M_Accounts_hold M_Accounts_settle M_Accounts_release
  have G_law_apply := ok_law_apply T x_law_apply 
  have G_law_rich := ok_law_rich T x_law_rich 
  have G_law_amount := ok_law_amount T x_law_amount 
  have G_law_word := ok_law_word T x_law_word 
  have G_law_key := ok_law_key T x_law_key G_law_word
  have G_law_name := ok_law_name T x_law_name G_law_word
  have G_law_op := ok_law_op T x_law_op G_law_rich G_law_amount G_law_key G_law_name
  have G_law_close := ok_law_close T x_law_close 
  have G_law_funds := ok_law_funds T x_law_funds 
  have G_law_payment := ok_law_payment T x_law_payment G_law_funds
  have G_law_reason := ok_law_reason T x_law_reason G_law_close G_law_funds G_law_payment
  have M_Accounts_rows := ok_Accounts_rows T x_Accounts_rows 
  have M_Accounts_held := ok_Accounts_held T x_Accounts_held 
  have M_Accounts_supply := ok_Accounts_supply T x_Accounts_supply 
  have G_law_same := ok_law_same T x_law_same M_Accounts_rows M_Accounts_held M_Accounts_owner M_Accounts_balance M_Accounts_supply
  have G_law_missing := ok_law_missing T x_law_missing M_Accounts_balance M_Accounts_owner
  have G_law_strange := ok_law_strange T x_law_strange 
  exact ok_law T F K_Accounts_init G_law_call G_law_apply G_law_op G_law_reason G_law_same G_law_missing G_law_strange
end Lw
open PySem PySem.W PyProof.Rows
set_option maxRecDepth 100000 in
set_option maxHeartbeats 0 in
theorem PySem.Challenge.cw_oathledger_k46_accounts_step_by_step_holds : PySem.Challenge.rw_oathledger_k46_accounts_step_by_step.Holds := by
  w_on; o_law; k_head; (case hw => w_witness2)
  k_fill
  refine L2.walk_of (l := PySem.Challenge.rw_oathledger_k46_accounts_step_by_step) (n := 63) (k := 8) (x := "script") (CX := fun w => L2.CX PySem.Challenge.rw_oathledger_k46_accounts_step_by_step.prog w) (sp := fun w => Mi.spEnd _) rfl (by decide) rfl ⟨rfl, by decide, by decide⟩ (fun w h Y => PySem.W.kIn_of Y) ?F (fun w H a ns hl ho hs => ⟨a, ns, rfl, hl, ho, hs, fun _ => rfl⟩) (fun w H s e s1 z => by obtain ⟨_, _, _, _, _, _, _, _, _, _, _, _, z⟩ := z; exact z)
  case F =>
    intro w mg fa h KX G hmg
    refine' Lw.all_mk KX G hmg ?aC0 ?aC1 ?aC2 ?cl2 ?na2_balances ?na2_holds ?na2_owners ?na2_total ?x_Accounts_init ?x_Accounts_create ?x_Accounts_owner ?x_Accounts_close ?x_Accounts_balance ?x_Accounts_issue ?x_Accounts_check_funds ?x_Accounts_burn ?x_Accounts_check_payment ?x_Accounts_pay ?x_Accounts_hold ?x_Accounts_settle ?x_Accounts_release ?x_law_call ?x_law_apply ?x_law_rich ?x_law_amount ?x_law_word ?x_law_key ?x_law_name ?x_law_op ?x_law_close ?x_law_funds ?x_law_payment ?x_law_reason ?x_Accounts_rows ?x_Accounts_held ?x_Accounts_supply ?x_law_same ?x_law_missing ?x_law_strange ?x_law ?b_ValueError ?b_int ?b_isinstance ?b_len ?b_list ?b_range ?b_sorted ?b_sum ?k_ACCOUNT_LIMIT ?k_HOLD_LIMIT ?k_MINT ?k_SUPPLY_LIMIT ?fx_Refused ?nx1_reason ?hd0 ?ty0 ?be0 ?ss0 ?sb1_0 ?hd1 ?ty1 ?be1 ?ss1 ?sb1_1 ?ec1 ?st1_ValueError ?xf1
    (case aC0 => k_is)
    (case aC1 => k_is)
    (case aC2 => k_is)
    (case cl2 => (refine' L2.Cls.mk ?y0 ?y1 ?y2 ?y3; (case y0 => k_is); (case y1 => k_is); (case y2 => k_is); (case y3 => k_is)))
    (case na2_balances => k_is)
    (case na2_holds => k_is)
    (case na2_owners => k_is)
    (case na2_total => k_is)
    (case x_Accounts_init => (refine' Mi.in_mk ?z5 ?z6 ?z7 ?z0 ?z1 ?z2 ?z3 ?z4; (case z5 => (refine' L2.Cls.mk ?y0 ?y1 ?y2 ?y3; (case y0 => k_is); (case y1 => k_is); (case y2 => k_is); (case y3 => k_is))); (case z6 => k_is); (case z7 => k_is); (case z0 => k_is); (case z1 => k_is); (case z2 => k_is); (case z3 => k_is); (case z4 => k_is)))
    (case x_Accounts_create => (refine' Mi.me_mk ?z5 ?z0 ?z1 ?z2 ?z3 ?z4; (case z5 => (refine' L2.Cls.mk ?y0 ?y1 ?y2 ?y3; (case y0 => k_is); (case y1 => k_is); (case y2 => k_is); (case y3 => k_is))); (case z0 => k_is); (case z1 => k_is); (case z2 => k_is); (case z3 => k_is); (case z4 => k_is)))
    (case x_Accounts_owner => (refine' Mi.me_mk ?z5 ?z0 ?z1 ?z2 ?z3 ?z4; (case z5 => (refine' L2.Cls.mk ?y0 ?y1 ?y2 ?y3; (case y0 => k_is); (case y1 => k_is); (case y2 => k_is); (case y3 => k_is))); (case z0 => k_is); (case z1 => k_is); (case z2 => k_is); (case z3 => k_is); (case z4 => k_is)))
    (case x_Accounts_close => (refine' Mi.me_mk ?z5 ?z0 ?z1 ?z2 ?z3 ?z4; (case z5 => (refine' L2.Cls.mk ?y0 ?y1 ?y2 ?y3; (case y0 => k_is); (case y1 => k_is); (case y2 => k_is); (case y3 => k_is))); (case z0 => k_is); (case z1 => k_is); (case z2 => k_is); (case z3 => k_is); (case z4 => k_is)))
    (case x_Accounts_balance => (refine' Mi.me_mk ?z5 ?z0 ?z1 ?z2 ?z3 ?z4; (case z5 => (refine' L2.Cls.mk ?y0 ?y1 ?y2 ?y3; (case y0 => k_is); (case y1 => k_is); (case y2 => k_is); (case y3 => k_is))); (case z0 => k_is); (case z1 => k_is); (case z2 => k_is); (case z3 => k_is); (case z4 => k_is)))
    (case x_Accounts_issue => (refine' Mi.me_mk ?z5 ?z0 ?z1 ?z2 ?z3 ?z4; (case z5 => (refine' L2.Cls.mk ?y0 ?y1 ?y2 ?y3; (case y0 => k_is); (case y1 => k_is); (case y2 => k_is); (case y3 => k_is))); (case z0 => k_is); (case z1 => k_is); (case z2 => k_is); (case z3 => k_is); (case z4 => k_is)))
    (case x_Accounts_check_funds => (refine' Mi.me_mk ?z5 ?z0 ?z1 ?z2 ?z3 ?z4; (case z5 => (refine' L2.Cls.mk ?y0 ?y1 ?y2 ?y3; (case y0 => k_is); (case y1 => k_is); (case y2 => k_is); (case y3 => k_is))); (case z0 => k_is); (case z1 => k_is); (case z2 => k_is); (case z3 => k_is); (case z4 => k_is)))
    (case x_Accounts_burn => (refine' Mi.me_mk ?z5 ?z0 ?z1 ?z2 ?z3 ?z4; (case z5 => (refine' L2.Cls.mk ?y0 ?y1 ?y2 ?y3; (case y0 => k_is); (case y1 => k_is); (case y2 => k_is); (case y3 => k_is))); (case z0 => k_is); (case z1 => k_is); (case z2 => k_is); (case z3 => k_is); (case z4 => k_is)))
    (case x_Accounts_check_payment => (refine' Mi.me_mk ?z5 ?z0 ?z1 ?z2 ?z3 ?z4; (case z5 => (refine' L2.Cls.mk ?y0 ?y1 ?y2 ?y3; (case y0 => k_is); (case y1 => k_is); (case y2 => k_is); (case y3 => k_is))); (case z0 => k_is); (case z1 => k_is); (case z2 => k_is); (case z3 => k_is); (case z4 => k_is)))
    (case x_Accounts_pay => (refine' Mi.me_mk ?z5 ?z0 ?z1 ?z2 ?z3 ?z4; (case z5 => (refine' L2.Cls.mk ?y0 ?y1 ?y2 ?y3; (case y0 => k_is); (case y1 => k_is); (case y2 => k_is); (case y3 => k_is))); (case z0 => k_is); (case z1 => k_is); (case z2 => k_is); (case z3 => k_is); (case z4 => k_is)))
    (case x_Accounts_hold => (refine' Mi.me_mk ?z5 ?z0 ?z1 ?z2 ?z3 ?z4; (case z5 => (refine' L2.Cls.mk ?y0 ?y1 ?y2 ?y3; (case y0 => k_is); (case y1 => k_is); (case y2 => k_is); (case y3 => k_is))); (case z0 => k_is); (case z1 => k_is); (case z2 => k_is); (case z3 => k_is); (case z4 => k_is)))
    (case x_Accounts_settle => (refine' Mi.me_mk ?z5 ?z0 ?z1 ?z2 ?z3 ?z4; (case z5 => (refine' L2.Cls.mk ?y0 ?y1 ?y2 ?y3; (case y0 => k_is); (case y1 => k_is); (case y2 => k_is); (case y3 => k_is))); (case z0 => k_is); (case z1 => k_is); (case z2 => k_is); (case z3 => k_is); (case z4 => k_is)))
    (case x_Accounts_release => (refine' Mi.me_mk ?z5 ?z0 ?z1 ?z2 ?z3 ?z4; (case z5 => (refine' L2.Cls.mk ?y0 ?y1 ?y2 ?y3; (case y0 => k_is); (case y1 => k_is); (case y2 => k_is); (case y3 => k_is))); (case z0 => k_is); (case z1 => k_is); (case z2 => k_is); (case z3 => k_is); (case z4 => k_is)))
    (case x_law_call => (refine' Mi.gl_mk KX G ?z0 ?z1 ?z2 ?z3; (case z0 => k_is); (case z1 => k_is); (case z2 => k_is); (case z3 => k_is)))
    (case x_law_apply => (refine' Mi.gl_mk KX G ?z0 ?z1 ?z2 ?z3; (case z0 => k_is); (case z1 => k_is); (case z2 => k_is); (case z3 => k_is)))
    (case x_law_rich => (refine' Mi.gl_mk KX G ?z0 ?z1 ?z2 ?z3; (case z0 => k_is); (case z1 => k_is); (case z2 => k_is); (case z3 => k_is)))
    (case x_law_amount => (refine' Mi.gl_mk KX G ?z0 ?z1 ?z2 ?z3; (case z0 => k_is); (case z1 => k_is); (case z2 => k_is); (case z3 => k_is)))
    (case x_law_word => (refine' Mi.gl_mk KX G ?z0 ?z1 ?z2 ?z3; (case z0 => k_is); (case z1 => k_is); (case z2 => k_is); (case z3 => k_is)))
    (case x_law_key => (refine' Mi.gl_mk KX G ?z0 ?z1 ?z2 ?z3; (case z0 => k_is); (case z1 => k_is); (case z2 => k_is); (case z3 => k_is)))
    (case x_law_name => (refine' Mi.gl_mk KX G ?z0 ?z1 ?z2 ?z3; (case z0 => k_is); (case z1 => k_is); (case z2 => k_is); (case z3 => k_is)))
    (case x_law_op => (refine' Mi.gl_mk KX G ?z0 ?z1 ?z2 ?z3; (case z0 => k_is); (case z1 => k_is); (case z2 => k_is); (case z3 => k_is)))
    (case x_law_close => (refine' Mi.gl_mk KX G ?z0 ?z1 ?z2 ?z3; (case z0 => k_is); (case z1 => k_is); (case z2 => k_is); (case z3 => k_is)))
    (case x_law_funds => (refine' Mi.gl_mk KX G ?z0 ?z1 ?z2 ?z3; (case z0 => k_is); (case z1 => k_is); (case z2 => k_is); (case z3 => k_is)))
    (case x_law_payment => (refine' Mi.gl_mk KX G ?z0 ?z1 ?z2 ?z3; (case z0 => k_is); (case z1 => k_is); (case z2 => k_is); (case z3 => k_is)))
    (case x_law_reason => (refine' Mi.gl_mk KX G ?z0 ?z1 ?z2 ?z3; (case z0 => k_is); (case z1 => k_is); (case z2 => k_is); (case z3 => k_is)))
    (case x_Accounts_rows => (refine' Mi.me_mk ?z5 ?z0 ?z1 ?z2 ?z3 ?z4; (case z5 => (refine' L2.Cls.mk ?y0 ?y1 ?y2 ?y3; (case y0 => k_is); (case y1 => k_is); (case y2 => k_is); (case y3 => k_is))); (case z0 => k_is); (case z1 => k_is); (case z2 => k_is); (case z3 => k_is); (case z4 => k_is)))
    (case x_Accounts_held => (refine' Mi.me_mk ?z5 ?z0 ?z1 ?z2 ?z3 ?z4; (case z5 => (refine' L2.Cls.mk ?y0 ?y1 ?y2 ?y3; (case y0 => k_is); (case y1 => k_is); (case y2 => k_is); (case y3 => k_is))); (case z0 => k_is); (case z1 => k_is); (case z2 => k_is); (case z3 => k_is); (case z4 => k_is)))
    (case x_Accounts_supply => (refine' Mi.me_mk ?z5 ?z0 ?z1 ?z2 ?z3 ?z4; (case z5 => (refine' L2.Cls.mk ?y0 ?y1 ?y2 ?y3; (case y0 => k_is); (case y1 => k_is); (case y2 => k_is); (case y3 => k_is))); (case z0 => k_is); (case z1 => k_is); (case z2 => k_is); (case z3 => k_is); (case z4 => k_is)))
    (case x_law_same => (refine' Mi.gl_mk KX G ?z0 ?z1 ?z2 ?z3; (case z0 => k_is); (case z1 => k_is); (case z2 => k_is); (case z3 => k_is)))
    (case x_law_missing => (refine' Mi.gl_mk KX G ?z0 ?z1 ?z2 ?z3; (case z0 => k_is); (case z1 => k_is); (case z2 => k_is); (case z3 => k_is)))
    (case x_law_strange => (refine' Mi.gl_mk KX G ?z0 ?z1 ?z2 ?z3; (case z0 => k_is); (case z1 => k_is); (case z2 => k_is); (case z3 => k_is)))
    (case x_law => (refine' Mi.gl_mk KX G ?z0 ?z1 ?z2 ?z3; (case z0 => k_is); (case z1 => k_is); (case z2 => k_is); (case z3 => k_is)))
    (case b_ValueError => k_is)
    (case b_int => k_is)
    (case b_isinstance => k_is)
    (case b_len => k_is)
    (case b_list => k_is)
    (case b_range => k_is)
    (case b_sorted => k_is)
    (case b_sum => k_is)
    (case k_ACCOUNT_LIMIT => k_is)
    (case k_HOLD_LIMIT => k_is)
    (case k_MINT => k_is)
    (case k_SUPPLY_LIMIT => k_is)
    (case fx_Refused => (refine' Mi.fx_mk ?o ?z0 ?z1 ?z2 ?z3 ?z4; (case o => (refine' Mi.oex_mk ?o0 ?o1 ?o2 ?o3 ?o4 ?o5; (case o0 => k_is); (case o1 => decide +kernel); (case o2 => k_is); (case o3 => k_is); (case o4 => k_is); (case o5 => k_is))); (case z0 => k_is); (case z1 => k_is); (case z2 => k_is); (case z3 => k_is); (case z4 => k_is)))
    (case nx1_reason => k_is)
    (case hd0 => k_is)
    (case ty0 => k_is)
    (case be0 => k_is)
    (case ss0 => k_is)
    (case sb1_0 => k_is)
    (case hd1 => k_is)
    (case ty1 => k_is)
    (case be1 => k_is)
    (case ss1 => k_is)
    (case sb1_1 => k_is)
    (case ec1 => (refine' L2.ExcC.mk ?y0 ?y1 ?y2 ?y3 ?y4 ?y5 ?y6 ?y7; (case y0 => k_is); (case y1 => k_is); (case y2 => k_is); (case y3 => k_is); (case y4 => k_is); (case y5 => k_is); (case y6 => k_is); (case y7 => k_is)))
    (case st1_ValueError => k_is)
    (case xf1 => (refine' L2.XfC.mk ?y0 ?y1 ?y2 ?y3; (case y0 => k_is); (case y1 => k_is); (case y2 => k_is); (case y3 => k_is)))

