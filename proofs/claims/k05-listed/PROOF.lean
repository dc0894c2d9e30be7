import PyProof.Rows.All
import HandS.ForMost
import HandS.IsInst
import HandS.SortInts
import HandS.Wide
import HandS.WideBits
import HandS.TupAny
import HandS.Defaults
import HandS.Gcd
import HandS.Style
import HandS.Dict
import HandS.More
import HandS.Iter
import PySem.Challenge.RW_moneyheld_k05_listed_and_shared

set_option Elab.async false
set_option linter.all false
set_option maxRecDepth 100000
set_option maxHeartbeats 4000000
/-! A layer of our own over HandS: expressions and statements as plain functions on data (D), an environment of slots and a store of mutable objects. -/
namespace My
open PySem PySem.Spec PyProof.Rows L2

/-- what a value is, without the heap -/
inductive D where
  | non | bl (b : Bool) | int (i : Int) | str (x : Str) | ty (n : String) | adr (a : Addr) | tup (ds : List D) | lst (ds : List D) | fro (ds : List D) | loc (n : Nat) | fdk (n : Nat) (ks : List Key) (ds : List D)

/-- a mutable object -/
inductive SO where
  | dead | lst (ds : List D) | dK (kvs : List (Key × D)) | dT (kvs : List (List Key × D))

structure Cy where
  K : PySem.W.Frag
  P : Program
  w : World
abbrev cyOf (X : Cx) : Cy := ⟨X.K, X.prog, X.w⟩
/-- the part of the heap that stays, and objects held aside (g: they stay too, and are not looked at) -/
structure Hb where
  h : Hp
  g : List (Addr × HO)

section
variable (C : Cy) (H : Hb) (as : List Addr)
mutual
def Rep : D → V → Prop
  | .non, v => v = .non
  | .bl b, v => v = .bl b
  | .int i, v => v = .int i
  | .str x, v => v = .str x
  | .ty n, v => v = .ty n
  | .adr a, v => v = .ref a
  | .tup ds, v => ∃ a vs, v = .ref a ∧ SqT C.K H.h a vs ∧ Reps ds vs
  | .lst ds, v => ∃ a vs, v = .ref a ∧ H.h a = some (.lst vs) ∧ Reps ds vs
  | .fro ds, v => ∃ a vs, v = .ref a ∧ SqL C.K H.h a vs ∧ Reps ds vs
  | .loc n, v => ∃ a, as[n]? = some a ∧ v = .ref a
  | .fdk n ks ds, v => ∃ a ob vs, as[n]? = some a ∧ v = .ref a ∧ H.h a = some (.frz ob (.dK (ks.zip vs))) ∧ ks.length = ds.length ∧ Reps ds vs
def Reps : List D → List V → Prop
  | [], vs => vs = []
  | d :: ds, vs => ∃ v r, vs = v :: r ∧ Rep d v ∧ Reps ds r
end
def RepKV {κ : Type} : List (κ × D) → List (κ × V) → Prop
  | [], vs => vs = []
  | (k, d) :: ds, vs => ∃ v r, vs = (k, v) :: r ∧ Rep C H as d v ∧ RepKV ds r
def RepO : SO → HO → Prop
  | .dead, _ => True
  | .lst ds, o => ∃ vs, o = .lst vs ∧ Reps C H as ds vs
  | .dK kvs, o => ∃ vs, o = .dK vs ∧ RepKV C H as kvs vs
  | .dT kvs, o => ∃ vs, o = .dT vs ∧ RepKV C H as kvs vs
end

structure Le (H : Hb) (as : List Addr) (H' : Hb) (as' : List Addr) : Prop where
  same : Same H.h H'.h
  gh : H'.g = H.g
  pre : as <+: as'
theorem Le.refl {H : Hb} {as : List Addr} : Le H as H as := ⟨Same.refl H.h, rfl, List.prefix_rfl⟩
theorem Le.trans {H H1 H2 : Hb} {as as1 as2 : List Addr} (a : Le H as H1 as1) (b : Le H1 as1 H2 as2) : Le H as H2 as2 := ⟨a.same.trans b.same, b.gh.trans a.gh, a.pre.trans b.pre⟩

theorem same_seqT {K : PySem.W.Frag} {H H' : Hp} {a : Addr} {xs : List V} (e : Same H H') (h : SqT K H a xs) : SqT K H' a xs := by
  rcases h with (h | ⟨o, h⟩) | h
  · exact .inl (.inl (e _ _ h))
  · exact .inl (.inr ⟨o, e _ _ h⟩)
  · exact .inr h
theorem pre_get {as as' : List Addr} (h : as <+: as') {n : Nat} {a : Addr} (e : as[n]? = some a) : as'[n]? = some a := by
  obtain ⟨t, rfl⟩ := h
  rw [List.getElem?_append_left (List.getElem?_eq_some_iff.mp e).1]
  exact e
section
variable {C : Cy} {H H' : Hb} {as as' : List Addr}
mutual
theorem Rep.mono (l : Le H as H' as') : ∀ {d : D} {v : V}, Rep C H as d v → Rep C H' as' d v
  | .non, _, h => h
  | .bl _, _, h => h
  | .int _, _, h => h
  | .str _, _, h => h
  | .ty _, _, h => h
  | .adr _, _, h => h
  | .tup ds, _, h => by
    obtain ⟨a, vs, e, hs, hr⟩ := h
    exact ⟨a, vs, e, same_seqT l.same hs, Reps.mono l hr⟩
  | .lst ds, _, h => by
    obtain ⟨a, vs, e, hs, hr⟩ := h
    exact ⟨a, vs, e, l.same _ _ hs, Reps.mono l hr⟩
  | .fro ds, _, h => by
    obtain ⟨a, vs, e, hs, hr⟩ := h
    exact ⟨a, vs, e, l.same.seq hs, Reps.mono l hr⟩
  | .loc n, _, h => by
    obtain ⟨a, ha, e⟩ := h
    exact ⟨a, pre_get l.pre ha, e⟩
  | .fdk n ks ds, _, h => by
    obtain ⟨a, ob, vs, ha, e, hs, hl, hr⟩ := h
    exact ⟨a, ob, vs, pre_get l.pre ha, e, l.same _ _ hs, hl, Reps.mono l hr⟩
theorem Reps.mono (l : Le H as H' as') : ∀ {ds : List D} {vs : List V}, Reps C H as ds vs → Reps C H' as' ds vs
  | [], _, h => h
  | d :: ds, _, h => by
    obtain ⟨v, r, e, h1, h2⟩ := h
    exact ⟨v, r, e, Rep.mono l h1, Reps.mono l h2⟩
end
theorem RepKV.mono {κ : Type} (l : Le H as H' as') : ∀ {ds : List (κ × D)} {vs : List (κ × V)}, RepKV C H as ds vs → RepKV C H' as' ds vs
  | [], _, h => h
  | (k, d) :: ds, _, h => by
    obtain ⟨v, r, e, h1, h2⟩ := h
    exact ⟨v, r, e, Rep.mono l h1, RepKV.mono l h2⟩
theorem RepO.mono (l : Le H as H' as') : ∀ {o : SO} {u : HO}, RepO C H as o u → RepO C H' as' o u
  | .dead, _, h => h
  | .lst _, _, ⟨vs, e, h⟩ => ⟨vs, e, h.mono l⟩
  | .dK _, _, ⟨vs, e, h⟩ => ⟨vs, e, h.mono l⟩
  | .dT _, _, ⟨vs, e, h⟩ => ⟨vs, e, h.mono l⟩
theorem Reps.length : ∀ {ds : List D} {vs : List V}, Reps C H as ds vs → ds.length = vs.length
  | [], _, h => by
    have h : _ = [] := h
    subst h
    rfl
  | d :: ds, _, h => by
    obtain ⟨v, r, rfl, _, h2⟩ := h
    simp [Reps.length h2]
theorem Reps.get : ∀ {ds : List D} {vs : List V} {i : Nat} {d : D}, Reps C H as ds vs → ds[i]? = some d → ∃ v, vs[i]? = some v ∧ Rep C H as d v
  | [], _, _, _, _, e => by simp at e
  | d :: ds, _, 0, _, h, e => by
    obtain ⟨v, r, rfl, h1, h2⟩ := h
    simp at e
    subst e
    exact ⟨v, rfl, h1⟩
  | d :: ds, _, i + 1, _, h, e => by
    obtain ⟨v, r, rfl, h1, h2⟩ := h
    exact Reps.get (i := i) h2 (by simpa using e)
theorem Reps.getV : ∀ {ds : List D} {vs : List V} {i : Nat} {v : V}, Reps C H as ds vs → vs[i]? = some v → ∃ d, ds[i]? = some d ∧ Rep C H as d v
  | [], vs, i, v, h, e => by
    have h : vs = [] := h
    subst h
    simp at e
  | d :: ds, _, 0, _, h, e => by
    obtain ⟨v, r, rfl, h1, h2⟩ := h
    simp at e
    subst e
    exact ⟨d, rfl, h1⟩
  | d :: ds, _, i + 1, _, h, e => by
    obtain ⟨v, r, rfl, h1, h2⟩ := h
    exact Reps.getV (i := i) h2 (by simpa using e)
theorem Reps.append : ∀ {ds es : List D} {vs us : List V}, Reps C H as ds vs → Reps C H as es us → Reps C H as (ds ++ es) (vs ++ us)
  | [], _, _, _, h, k => by
    have h : _ = [] := h
    subst h
    exact k
  | d :: ds, _, _, _, h, k => by
    obtain ⟨v, r, rfl, h1, h2⟩ := h
    exact ⟨v, r ++ _, rfl, h1, Reps.append h2 k⟩
theorem Reps.one {d : D} {v : V} (h : Rep C H as d v) : Reps C H as [d] [v] := ⟨v, [], rfl, h, rfl⟩
theorem Reps.take : ∀ {ds : List D} {vs : List V} (n : Nat), Reps C H as ds vs → Reps C H as (ds.take n) (vs.take n)
  | _, _, 0, _ => by simp [Reps]
  | [], _, n + 1, h => by
    have h : _ = [] := h
    subst h
    simp [Reps]
  | d :: ds, _, n + 1, h => by
    obtain ⟨v, r, rfl, h1, h2⟩ := h
    exact ⟨v, r.take n, rfl, h1, Reps.take n h2⟩
theorem Reps.drop : ∀ {ds : List D} {vs : List V} (n : Nat), Reps C H as ds vs → Reps C H as (ds.drop n) (vs.drop n)
  | _, _, 0, h => h
  | [], _, n + 1, h => by
    have h : _ = [] := h
    subst h
    simp [Reps]
  | d :: ds, _, n + 1, h => by
    obtain ⟨v, r, rfl, h1, h2⟩ := h
    exact Reps.drop n h2
theorem Reps.set {d : D} {v : V} (k : Rep C H as d v) : ∀ {ds : List D} {vs : List V} (n : Nat), Reps C H as ds vs → Reps C H as (ds.set n d) (vs.set n v)
  | [], _, n, h => by
    have h : _ = [] := h
    subst h
    simp [Reps]
  | e :: ds, _, 0, h => by
    obtain ⟨v', r, rfl, h1, h2⟩ := h
    exact ⟨v, r, rfl, k, h2⟩
  | e :: ds, _, n + 1, h => by
    obtain ⟨v', r, rfl, h1, h2⟩ := h
    exact ⟨v', _, rfl, h1, Reps.set k n h2⟩
theorem Reps.rev {ds : List D} {vs : List V} (h : Reps C H as ds vs) : Reps C H as ds.reverse vs.reverse := by
  induction ds generalizing vs with
  | nil =>
    have h : vs = [] := h
    subst h
    rfl
  | cons d ds ih =>
    obtain ⟨v, r, rfl, h1, h2⟩ := h
    rw [List.reverse_cons, List.reverse_cons]
    exact (ih h2).append (Reps.one h1)
theorem Reps.ints {ns : List Int} {vs : List V} (h : Reps C H as (ns.map D.int) vs) : vs = ns.map V.int := by
  induction ns generalizing vs with
  | nil => exact h
  | cons n ns ih =>
    obtain ⟨v, r, rfl, h1, h2⟩ := h
    have h1 : v = .int n := h1
    rw [h1, ih h2]
    rfl
theorem Reps.of_ints : ∀ (ns : List Int), Reps C H as (ns.map D.int) (ns.map V.int)
  | [] => rfl
  | n :: ns => ⟨.int n, ns.map V.int, rfl, rfl, Reps.of_ints ns⟩
end

abbrev Sto := List SO
abbrev En := List (Option D)

structure WR (C : Cy) (H0 : Hb) (as : List Addr) (st : Sto) (H : Hp) : Prop where
  ex : Same H0.h H
  nd : as.Nodup
  len : as.length = st.length
  liv : ∀ a ∈ as, ∃ o, H a = some o
  own : ∀ (n : Nat) a o, as[n]? = some a → st[n]? = some o → o = .dead ∨ (H0.h a = none ∧ ∃ ho, H a = some ho ∧ RepO C H0 as o ho)
  gho : ∀ p ∈ H0.g, H0.h p.1 = none ∧ p.1 ∉ as ∧ H p.1 = some p.2

structure EnR (C : Cy) (H0 : Hb) (as : List Addr) (en : En) (σ : L2.St) : Prop where
  len : en.length = σ.length
  at_ : ∀ (i : Nat) d, en[i]? = some (some d) → ∃ v, σ[i]? = some (some v) ∧ Rep C H0 as d v
theorem EnR.mono {C : Cy} {H H' : Hb} {as as' : List Addr} {en : En} {σ : L2.St} (l : Le H as H' as') (e : EnR C H as en σ) : EnR C H' as' en σ :=
  ⟨e.len, fun i d h => let ⟨v, a, b⟩ := e.at_ i d h; ⟨v, a, b.mono l⟩⟩
theorem EnR.set {C : Cy} {H : Hb} {as : List Addr} {en : En} {σ : L2.St} {d : D} {v : V} (e : EnR C H as en σ) (r : Rep C H as d v) (i : Nat) : EnR C H as (en.set i (some d)) (σ.set i (some v)) := by
  refine ⟨by rw [List.length_set, List.length_set, e.len], fun j d' h => ?_⟩
  by_cases hj : j = i
  · subst hj
    by_cases hl : j < en.length
    · rw [List.getElem?_set_self hl] at h
      cases h
      exact ⟨v, List.getElem?_set_self (by rw [← e.len]; exact hl), r⟩
    · rw [List.getElem?_eq_none_iff.mpr (by rw [List.length_set]; omega)] at h
      cases h
  · rw [List.getElem?_set_ne (Ne.symm hj)] at h
    rw [List.getElem?_set_ne (Ne.symm hj)]
    exact e.at_ j d' h

abbrev ME := En → Sto → Option (D × Sto)
abbrev MB := En → Sto → Option (Bool × Sto)
abbrev MA := En → Sto → Option (List D × Sto)
abbrev MO := En → Sto → Option (Option Int × Sto)
inductive Out where
  | nx (e : En) | rt (d : D) | bk (e : En) | ct (e : En)
abbrev MS := En → Sto → Option (Out × Sto)

/-- what follows a value -/
def KE (C : Cy) (H0 : Hb) (as : List Addr) (st : Sto) (d : D) (Q : VK) : Prop := ∀ v H0' as' H', Le H0 as H0' as' → WR C H0' as' st H' → Rep C H0' as' d v → Q v H'
def KB (C : Cy) (H0 : Hb) (as : List Addr) (st : Sto) (b : Bool) (Q : Bool → Hp → Prop) : Prop := ∀ H0' as' H', Le H0 as H0' as' → WR C H0' as' st H' → Q b H'
def KA (C : Cy) (H0 : Hb) (as : List Addr) (st : Sto) (ds : List D) (Q : List V → Hp → Prop) : Prop := ∀ vs H0' as' H', Le H0 as H0' as' → WR C H0' as' st H' → Reps C H0' as' ds vs → Q vs H'
def KS (C : Cy) (H0 : Hb) (as : List Addr) (st : Sto) (en : En) (Q : L2.St → Hp → Prop) : Prop := ∀ σ H0' as' H', Le H0 as H0' as' → WR C H0' as' st H' → EnR C H0' as' en σ → Q σ H'
def KO (C : Cy) (H0 : Hb) (as : List Addr) (st : Sto) (D : Ends) : Out → Prop
  | .nx en => KS C H0 as st en D.nx
  | .bk en => KS C H0 as st en D.bk
  | .ct en => KS C H0 as st en D.ct
  | .rt d => KE C H0 as st d D.rt
theorem KE.mono {C : Cy} {H H1 : Hb} {as as1 : List Addr} {st : Sto} {d : D} {Q : VK} (l : Le H as H1 as1) (k : KE C H as st d Q) : KE C H1 as1 st d Q := fun v H' as' H'' l' => k v H' as' H'' (l.trans l')
theorem KB.mono {C : Cy} {H H1 : Hb} {as as1 : List Addr} {st : Sto} {d : Bool} {Q : Bool → Hp → Prop} (l : Le H as H1 as1) (k : KB C H as st d Q) : KB C H1 as1 st d Q := fun H' as' H'' l' => k H' as' H'' (l.trans l')
theorem KA.mono {C : Cy} {H H1 : Hb} {as as1 : List Addr} {st : Sto} {d : List D} {Q : List V → Hp → Prop} (l : Le H as H1 as1) (k : KA C H as st d Q) : KA C H1 as1 st d Q := fun v H' as' H'' l' => k v H' as' H'' (l.trans l')
theorem KS.mono {C : Cy} {H H1 : Hb} {as as1 : List Addr} {st : Sto} {en : En} {Q : L2.St → Hp → Prop} (l : Le H as H1 as1) (k : KS C H as st en Q) : KS C H1 as1 st en Q := fun v H' as' H'' l' => k v H' as' H'' (l.trans l')
theorem KO.mono {C : Cy} {H H1 : Hb} {as as1 : List Addr} {st : Sto} {D : Ends} {o : Out} (l : Le H as H1 as1) (k : KO C H as st D o) : KO C H1 as1 st D o := by
  cases o with
  | nx en => exact KS.mono l k
  | bk en => exact KS.mono l k
  | ct en => exact KS.mono l k
  | rt d => exact KE.mono l k

def eM (C : Cy) (m : ME) : TE := fun σ H Q => ∃ H0 as en st d st', EnR C H0 as en σ ∧ WR C H0 as st H ∧ m en st = some (d, st') ∧ KE C H0 as st' d Q
def bM (C : Cy) (m : MB) : TT := fun σ H Q => ∃ H0 as en st b st', EnR C H0 as en σ ∧ WR C H0 as st H ∧ m en st = some (b, st') ∧ KB C H0 as st' b Q
def aM (C : Cy) (m : MA) : TA := fun σ H Q => ∃ H0 as en st ds st', EnR C H0 as en σ ∧ WR C H0 as st H ∧ m en st = some (ds, st') ∧ KA C H0 as st' ds Q
def oM (C : Cy) (m : MO) : TO := fun σ H Q => ∃ H0 as en st o st', EnR C H0 as en σ ∧ WR C H0 as st H ∧ m en st = some (o, st') ∧ ∀ H0' as' H', Le H0 as H0' as' → WR C H0' as' st' H' → Q o H'
def sM (C : Cy) (m : MS) : TS := fun D σ H => ∃ H0 as en st o st', EnR C H0 as en σ ∧ WR C H0 as st H ∧ m en st = some (o, st') ∧ KO C H0 as st' D o

section
variable {X : Cx} {e : Expr} {es : List Expr}
theorem PE.imp {t t' : TE} (h : PE X e t) (i : ∀ σ H Q, t' σ H Q → t σ H Q) : PE X e t' := ⟨fun pins s σ H Q I w => h.run pins s σ H Q I (i σ H Q w)⟩
theorem PT.imp {t t' : TT} (h : PT X e t) (i : ∀ σ H Q, t' σ H Q → t σ H Q) : PT X e t' := ⟨fun pins s σ H Q I w => h.run pins s σ H Q I (i σ H Q w)⟩
theorem PW.imp {t t' : TT} (h : PW X e t) (i : ∀ σ H Q, t' σ H Q → t σ H Q) : PW X e t' := ⟨fun wh pins s σ H Q I w => h.run wh pins s σ H Q I (i σ H Q w)⟩
theorem PA.imp {t t' : TA} (h : PA X es t) (i : ∀ σ H Q, t' σ H Q → t σ H Q) : PA X es t' := ⟨fun pos pins s σ H Q I w => h.run pos pins s σ H Q I (i σ H Q w)⟩
theorem PS.imp {st : Stmt} {t t' : TS} (h : PS X st t) (i : ∀ D σ H, t' D σ H → t D σ H) : PS X st t' := ⟨fun pins s σ H D I w => h.run pins s σ H D I (i D σ H w)⟩
theorem PSs.imp {st : List Stmt} {t t' : TS} (h : PSs X st t) (i : ∀ D σ H, t' D σ H → t D σ H) : PSs X st t' := ⟨fun pins s σ H D I w => h.run pins s σ H D I (i D σ H w)⟩
theorem PI.imp {tg : Expr} {t t' : TI} (h : PI X tg e t) (i : ∀ σ H R, t' σ H R → t σ H R) : PI X tg e t' := ⟨fun pins s σ H R I w => h.run pins s σ H R I (i σ H R w)⟩
end

/-! ### expressions -/
def mC (d : D) : ME := fun _ st => some (d, st)
def mV (i : Nat) : ME := fun en st => match en[i]? with
  | some (some d) => some (d, st)
  | _ => none
def mOp (f : D → D → Sto → Option (D × Sto)) (a b : ME) : ME := fun en st => (a en st).bind fun p => (b en p.2).bind fun q => f p.1 q.1 q.2
def mUn (f : D → Sto → Option (D × Sto)) (a : ME) : ME := fun en st => (a en st).bind fun p => f p.1 p.2
def mCb (f : List D → Sto → Option (D × Sto)) (a : MA) : ME := fun en st => (a en st).bind fun p => f p.1 p.2
def mNil : MA := fun _ st => some ([], st)
def mCons (a : ME) (r : MA) : MA := fun en st => (a en st).bind fun p => (r en p.2).bind fun q => some (p.1 :: q.1, q.2)

/-- what a rule by values gives, is what f says -/
def Ok2 (C : Cy) (r : R2) (f : D → D → Sto → Option (D × Sto)) : Prop := ∀ H0 as st H dx dy x y d st' Q, WR C H0 as st H → Rep C H0 as dx x → Rep C H0 as dy y → f dx dy st = some (d, st') → KE C H0 as st' d Q → r x y H Q
def Ok1 (C : Cy) (r : V → Hp → VK → Prop) (f : D → Sto → Option (D × Sto)) : Prop := ∀ H0 as st H dx x d st' Q, WR C H0 as st H → Rep C H0 as dx x → f dx st = some (d, st') → KE C H0 as st' d Q → r x H Q
def OkC (C : Cy) (r : List V → Hp → VK → Prop) (f : List D → Sto → Option (D × Sto)) : Prop := ∀ H0 as st H ds vs d st' Q, WR C H0 as st H → Reps C H0 as ds vs → f ds st = some (d, st') → KE C H0 as st' d Q → r vs H Q

section
variable {C : Cy} {σ : L2.St} {H : Hp} {Q : VK} {ma mb : ME}
theorem em_c {v : V} {d : D} (h : ∀ H0 as, Rep C H0 as d v) : eM C (mC d) σ H Q → tC v σ H Q := by
  rintro ⟨H0, as, en, st, d', st', e, w, hm, k⟩
  cases hm
  exact k v H0 as H Le.refl w (h H0 as)
theorem em_v {i : Nat} : eM C (mV i) σ H Q → tVar i σ H Q := by
  rintro ⟨H0, as, en, st, d', st', e, w, hm, k⟩
  unfold mV at hm
  split at hm
  · rename_i d0 h0
    cases hm
    obtain ⟨v, hv, r⟩ := e.at_ i _ h0
    exact ⟨v, hv, k v H0 as H Le.refl w r⟩
  · cases hm
theorem em_op {r : R2} {f : D → D → Sto → Option (D × Sto)} (ok : Ok2 C r f) : eM C (mOp f ma mb) σ H Q → tOp r (eM C ma) (eM C mb) σ H Q := by
  rintro ⟨H0, as, en, st, d, st', e, w, hm, k⟩
  unfold mOp at hm
  obtain ⟨⟨da, s1⟩, ha, hm⟩ := Option.bind_eq_some_iff.mp hm
  obtain ⟨⟨db, s2⟩, hb, hm⟩ := Option.bind_eq_some_iff.mp hm
  refine ⟨H0, as, en, st, da, s1, e, w, ha, fun x H1 as1 H1' l1 w1 r1 => ?_⟩
  refine ⟨H1, as1, en, s1, db, s2, e.mono l1, w1, hb, fun y H2 as2 H2' l2 w2 r2 => ?_⟩
  exact ok H2 as2 s2 H2' da db x y d st' Q w2 (r1.mono l2) r2 hm (k.mono (l1.trans l2))
theorem em_un {r : V → Hp → VK → Prop} {f : D → Sto → Option (D × Sto)} (ok : Ok1 C r f) : eM C (mUn f ma) σ H Q → tUn r (eM C ma) σ H Q := by
  rintro ⟨H0, as, en, st, d, st', e, w, hm, k⟩
  unfold mUn at hm
  obtain ⟨⟨da, s1⟩, ha, hm⟩ := Option.bind_eq_some_iff.mp hm
  refine ⟨H0, as, en, st, da, s1, e, w, ha, fun x H1 as1 H1' l1 w1 r1 => ?_⟩
  exact ok H1 as1 s1 H1' da x d st' Q w1 r1 hm (k.mono l1)
theorem am_nil {Q : List V → Hp → Prop} : aM C mNil σ H Q → tNil σ H Q := by
  rintro ⟨H0, as, en, st, d', st', e, w, hm, k⟩
  cases hm
  exact k [] H0 as H Le.refl w rfl
theorem am_cons {Q : List V → Hp → Prop} {mr : MA} : aM C (mCons ma mr) σ H Q → tCons (eM C ma) (aM C mr) σ H Q := by
  rintro ⟨H0, as, en, st, ds, st', e, w, hm, k⟩
  unfold mCons at hm
  obtain ⟨⟨da, s1⟩, ha, hm⟩ := Option.bind_eq_some_iff.mp hm
  obtain ⟨⟨db, s2⟩, hb, hm⟩ := Option.bind_eq_some_iff.mp hm
  cases hm
  refine ⟨H0, as, en, st, da, s1, e, w, ha, fun x H1 as1 H1' l1 w1 r1 => ?_⟩
  refine ⟨H1, as1, en, s1, db, s2, e.mono l1, w1, hb, fun y H2 as2 H2' l2 w2 r2 => ?_⟩
  exact k (x :: y) H2 as2 H2' (l1.trans l2) w2 ⟨x, y, rfl, r1.mono l2, r2⟩
theorem em_cb {r : List V → Hp → VK → Prop} {f : List D → Sto → Option (D × Sto)} (ok : OkC C r f) {m : MA} : eM C (mCb f m) σ H Q → tCB r (aM C m) σ H Q := by
  rintro ⟨H0, as, en, st, d, st', e, w, hm, k⟩
  unfold mCb at hm
  obtain ⟨⟨da, s1⟩, ha, hm⟩ := Option.bind_eq_some_iff.mp hm
  refine ⟨H0, as, en, st, da, s1, e, w, ha, fun x H1 as1 H1' l1 w1 r1 => ?_⟩
  exact ok H1 as1 s1 H1' da x d st' Q w1 r1 hm (k.mono l1)
end

/-! ### heaps that grow -/
theorem WR.grow {C : Cy} {H0 : Hb} {H : Hp} {as : List Addr} {st : Sto} (w : WR C H0 as st H) {p : Addr} {o : HO} (hp : H p = none) : WR C ⟨upd H0.h p o, H0.g⟩ as st (upd H p o) ∧ Le H0 as ⟨upd H0.h p o, H0.g⟩ as := by
  have h0 : H0.h p = none := w.ex.free hp
  have l : Le H0 as ⟨upd H0.h p o, H0.g⟩ as := ⟨fun b x e => (show upd H0.h p o b = some x by rw [upd_ne (ne_of_none e h0)]; exact e), rfl, List.prefix_rfl⟩
  refine ⟨⟨fun b x e => ?_, w.nd, w.len, fun a ha => ?_, fun n a x ha hx => ?_, fun q hq => ?_⟩, l⟩
  · have e : upd H0.h p o b = some x := e
    by_cases hb : b = p
    · subst hb
      rw [upd_same] at e ⊢
      exact e
    · rw [upd_ne hb] at e ⊢
      exact w.ex b x e
  · obtain ⟨u, hu⟩ := w.liv a ha
    exact ⟨u, by rw [upd_ne (ne_of_none hu hp)]; exact hu⟩
  · rcases w.own n a x ha hx with z | ⟨z, ho, h1, h2⟩
    · exact .inl z
    · have hap : a ≠ p := ne_of_none h1 hp
      exact .inr ⟨(show upd H0.h p o a = none by rw [upd_ne hap]; exact z), ho, by rw [upd_ne hap]; exact h1, h2.mono l⟩
  · obtain ⟨h1, h2, h3⟩ := w.gho q hq
    have hqp : q.1 ≠ p := ne_of_none h3 hp
    exact ⟨(show upd H0.h p o q.1 = none by rw [upd_ne hqp]; exact h1), h2, by rw [upd_ne hqp]; exact h3⟩
/-- a new tuple (frozen list) -/
theorem KE.newT {C : Cy} {H0 : Hb} {H : Hp} {as : List Addr} {st : Sto} {Q : VK} {ds : List D} {vs : List V} (k : KE C H0 as st (.tup ds) Q) (w : WR C H0 as st H) (r : Reps C H0 as ds vs) : ∀ p, H p = none → Q (.ref p) (upd H p (.tup vs)) := fun p hp => by
  obtain ⟨w', l⟩ := w.grow (o := .tup vs) hp
  exact k (.ref p) _ as _ l w' ⟨p, vs, rfl, SqT.of upd_same, r.mono l⟩
theorem KE.newL {C : Cy} {H0 : Hb} {H : Hp} {as : List Addr} {st : Sto} {Q : VK} {ds : List D} {vs : List V} (k : KE C H0 as st (.lst ds) Q) (w : WR C H0 as st H) (r : Reps C H0 as ds vs) : ∀ p, H p = none → Q (.ref p) (upd H p (.lst vs)) := fun p hp => by
  obtain ⟨w', l⟩ := w.grow (o := .lst vs) hp
  exact k (.ref p) _ as _ l w' ⟨p, vs, rfl, upd_same, r.mono l⟩
/-- a new mutable object -/
theorem WR.push {C : Cy} {H0 : Hb} {H : Hp} {as : List Addr} {st : Sto} (w : WR C H0 as st H) {p : Addr} {o : SO} {ho : HO} (hp : H p = none) (r : RepO C H0 as o ho) : WR C H0 (as ++ [p]) (st ++ [o]) (upd H p ho) ∧ Le H0 as H0 (as ++ [p]) := by
  have h0 : H0.h p = none := w.ex.free hp
  have l : Le H0 as H0 (as ++ [p]) := ⟨Same.refl H0.h, rfl, List.prefix_append _ _⟩
  have np : p ∉ as := fun z => by
    obtain ⟨u, hu⟩ := w.liv p z
    rw [hp] at hu
    cases hu
  refine ⟨⟨fun b x e => ?_, ?_, ?_, fun a ha => ?_, fun n a x ha hx => ?_, fun q hq => ?_⟩, l⟩
  · have hb : b ≠ p := ne_of_none e h0
    rw [upd_ne hb]
    exact w.ex b x e
  · refine List.nodup_append.mpr ⟨w.nd, by simp, fun a ha b hb => ?_⟩
    have e : b = p := by simpa using hb
    subst e
    exact fun z => np (z ▸ ha)
  · simp [w.len]
  · rcases List.mem_append.mp ha with ha | ha
    · obtain ⟨u, hu⟩ := w.liv a ha
      exact ⟨u, by rw [upd_ne (ne_of_none hu hp)]; exact hu⟩
    · have e : a = p := by simpa using ha
      subst e
      exact ⟨ho, upd_same⟩
  · by_cases hn : n < as.length
    · rw [List.getElem?_append_left hn] at ha
      rw [List.getElem?_append_left (by rw [← w.len]; exact hn)] at hx
      rcases w.own n a x ha hx with z | ⟨z, u, h1, h2⟩
      · exact .inl z
      · have hap : a ≠ p := ne_of_none h1 hp
        exact .inr ⟨z, u, by rw [upd_ne hap]; exact h1, h2.mono l⟩
    · have hn' : n = as.length := by
        have := (List.getElem?_eq_some_iff.mp ha).1
        rw [List.length_append] at this
        simp at this
        omega
      subst hn'
      rw [List.getElem?_append_right (Nat.le_refl _)] at ha
      rw [w.len, List.getElem?_append_right (Nat.le_refl _)] at hx
      simp at ha hx
      subst ha hx
      exact .inr ⟨h0, ho, upd_same, r.mono l⟩
  · obtain ⟨h1, h2, h3⟩ := w.gho q hq
    have hqp : q.1 ≠ p := ne_of_none h3 hp
    exact ⟨h1, fun z => (List.mem_append.mp z).elim h2 fun z => hqp (by simpa using z), by rw [upd_ne hqp]; exact h3⟩
theorem KE.newM {C : Cy} {H0 : Hb} {H : Hp} {as : List Addr} {st : Sto} {Q : VK} {ds : List D} {vs : List V} (k : KE C H0 as (st ++ [.lst ds]) (.loc st.length) Q) (w : WR C H0 as st H) (r : Reps C H0 as ds vs) : ∀ p, H p = none → Q (.ref p) (upd H p (.lst vs)) := fun p hp => by
  obtain ⟨w', l⟩ := w.push (o := .lst ds) hp ⟨vs, rfl, r⟩
  exact k (.ref p) _ _ _ l w' ⟨p, by rw [← w.len]; simp, rfl⟩
/-- a mutable object is changed -/
theorem WR.put {C : Cy} {H0 : Hb} {H : Hp} {as : List Addr} {st : Sto} (w : WR C H0 as st H) {n : Nat} {a : Addr} {o : SO} {ho : HO} (ha : as[n]? = some a) (hn : H0.h a = none) (r : RepO C H0 as o ho) : WR C H0 as (st.set n o) (upd H a ho) := by
  refine ⟨fun b x e => ?_, w.nd, by rw [List.length_set, w.len], fun b hb => ?_, fun m b x hb hx => ?_, fun q hq => ?_⟩
  · rw [upd_ne (ne_of_none e hn)]
    exact w.ex b x e
  · by_cases e : b = a
    · subst e
      exact ⟨ho, upd_same⟩
    · rw [upd_ne e]
      exact w.liv b hb
  · by_cases e : m = n
    · subst e
      rw [ha] at hb
      cases hb
      have hl : m < st.length := by
        have := (List.getElem?_eq_some_iff.mp ha).1
        rw [w.len] at this
        exact this
      rw [List.getElem?_set_self hl] at hx
      cases hx
      exact .inr ⟨hn, ho, upd_same, r⟩
    · rw [List.getElem?_set_ne (Ne.symm e)] at hx
      have hba : b ≠ a := fun z => by
        subst z
        obtain ⟨h1, e1⟩ := List.getElem?_eq_some_iff.mp ha
        obtain ⟨h2, e2⟩ := List.getElem?_eq_some_iff.mp hb
        exact e ((List.getElem_inj w.nd).mp (e2.trans e1.symm))
      rcases w.own m b x hb hx with z | ⟨z, u, h1, h2⟩
      · exact .inl z
      · exact .inr ⟨z, u, by rw [upd_ne hba]; exact h1, h2⟩
  · obtain ⟨h1, h2, h3⟩ := w.gho q hq
    have hqa : q.1 ≠ a := fun z => h2 (by rw [z]; exact List.mem_of_getElem? ha)
    exact ⟨h1, h2, by rw [upd_ne hqa]; exact h3⟩
end My


namespace My
open PySem PySem.Spec PyProof.Rows L2

/-! ### looking into sequences -/
def look : D → Sto → Option (List D)
  | .tup ds, _ => some ds
  | .lst ds, _ => some ds
  | .fro ds, _ => some ds
  | .loc n, st => match st[n]? with
    | some (.lst ds) => some ds
    | _ => none
  | _, _ => none
def lookL : D → Sto → Option (List D)
  | .lst ds, _ => some ds
  | .loc n, st => match st[n]? with
    | some (.lst ds) => some ds
    | _ => none
  | _, _ => none
/-- no mutable object stands in it at the top -/
def noLoc : D → Bool
  | .loc _ => false
  | _ => true
/-- a list is made: frozen, or mutable -/
def alloc (mu : Bool) (ds : List D) (st : Sto) : D × Sto := if mu then (.loc st.length, st ++ [.lst ds]) else (.lst ds, st)

section
variable {C : Cy} {H0 : Hb} {H : Hp} {as : List Addr} {st st' : Sto} {Q : VK}
theorem WR.loc (w : WR C H0 as st H) {n : Nat} {ds : List D} (h : st[n]? = some (.lst ds)) : ∃ a vs, as[n]? = some a ∧ H0.h a = none ∧ H a = some (.lst vs) ∧ Reps C H0 as ds vs := by
  have hl : n < as.length := by rw [w.len]; exact (List.getElem?_eq_some_iff.mp h).1
  rcases w.own n _ _ (List.getElem?_eq_getElem hl) h with z | ⟨z, ho, h1, vs, rfl, h2⟩
  · cases z
  · exact ⟨as[n], vs, List.getElem?_eq_getElem hl, z, h1, h2⟩
theorem look_seq (w : WR C H0 as st H) {d : D} {x : V} {ds : List D} (r : Rep C H0 as d x) (h : look d st = some ds) : ∃ a vs, x = .ref a ∧ (SqL C.K H a vs ∨ SqT C.K H a vs) ∧ Reps C H0 as ds vs := by
  cases d with
  | tup es =>
    cases h
    obtain ⟨a, vs, e, hs, hr⟩ := r
    exact ⟨a, vs, e, .inr (same_seqT w.ex hs), hr⟩
  | lst es =>
    cases h
    obtain ⟨a, vs, e, hs, hr⟩ := r
    exact ⟨a, vs, e, .inl (SqL.of (w.ex _ _ hs)), hr⟩
  | fro es =>
    cases h
    obtain ⟨a, vs, e, hs, hr⟩ := r
    exact ⟨a, vs, e, .inl (w.ex.seq hs), hr⟩
  | loc n =>
    obtain ⟨a, ha, e⟩ := r
    unfold look at h
    dsimp only at h
    split at h
    · rename_i es he
      cases h
      obtain ⟨a', vs, ha', _, h1, h2⟩ := w.loc he
      rw [ha] at ha'
      cases ha'
      exact ⟨a, vs, e, .inl (SqL.of h1), h2⟩
    · cases h
  | _ => cases h
theorem lookL_seq (w : WR C H0 as st H) {d : D} {x : V} {ds : List D} (r : Rep C H0 as d x) (h : lookL d st = some ds) : ∃ a vs, x = .ref a ∧ H a = some (.lst vs) ∧ Reps C H0 as ds vs := by
  cases d with
  | lst es =>
    cases h
    obtain ⟨a, vs, e, hs, hr⟩ := r
    exact ⟨a, vs, e, w.ex _ _ hs, hr⟩
  | loc n =>
    obtain ⟨a, ha, e⟩ := r
    unfold lookL at h
    dsimp only at h
    split at h
    · rename_i es he
      cases h
      obtain ⟨a', vs, ha', _, h1, h2⟩ := w.loc he
      rw [ha] at ha'
      cases ha'
      exact ⟨a, vs, e, h1, h2⟩
    · cases h
  | _ => cases h
theorem KE.newA {mu : Bool} {ds : List D} {vs : List V} {d : D} (k : KE C H0 as st' d Q) (h : alloc mu ds st = (d, st')) (w : WR C H0 as st H) (r : Reps C H0 as ds vs) : ∀ p, H p = none → Q (.ref p) (upd H p (.lst vs)) := by
  cases mu with
  | true =>
    cases h
    exact KE.newM k w r
  | false =>
    cases h
    exact KE.newL k w r
theorem KE.val {d : D} {v : V} (k : KE C H0 as st d Q) (w : WR C H0 as st H) (r : Rep C H0 as d v) : Q v H := k v H0 as H Le.refl w r
end

/-! ### PyData of a value -/
mutual
def toPy : D → Option PyData
  | .non => some .none
  | .bl b => some (.bool b)
  | .int i => some (.int i)
  | .str x => some (.str x)
  | .tup ds => (toPys ds).map .tuple
  | .lst ds => (toPys ds).map .list
  | .fro ds => (toPys ds).map .list
  | _ => none
def toPys : List D → Option (List PyData)
  | [] => some []
  | d :: ds => (toPy d).bind fun p => (toPys ds).map (p :: ·)
end
section
variable {C : Cy} {H0 : Hb} {H : Hp} {as : List Addr}
mutual
theorem toPy_dp (ex : Same H0.h H) : ∀ {d : D} {v : V} {p : PyData}, toPy d = some p → Rep C H0 as d v → Dp C.K H v p
  | .non, _, _, h, r => by
    cases h
    have r : _ = V.non := r
    subst r
    exact .non
  | .bl b, _, _, h, r => by
    cases h
    have r : _ = V.bl b := r
    subst r
    exact .bl b
  | .int b, _, _, h, r => by
    cases h
    have r : _ = V.int b := r
    subst r
    exact .int b
  | .str b, _, _, h, r => by
    cases h
    have r : _ = V.str b := r
    subst r
    exact .str b
  | .tup ds, _, _, h, r => by
    unfold toPy at h
    obtain ⟨ps, hp, rfl⟩ := Option.map_eq_some_iff.mp h
    obtain ⟨a, vs, rfl, hs, hr⟩ := r
    exact .tup (same_seqT ex hs) (toPys_dp ex hp hr)
  | .lst ds, _, _, h, r => by
    unfold toPy at h
    obtain ⟨ps, hp, rfl⟩ := Option.map_eq_some_iff.mp h
    obtain ⟨a, vs, rfl, hs, hr⟩ := r
    exact .lst (SqL.of (ex _ _ hs)) (toPys_dp ex hp hr)
  | .fro ds, _, _, h, r => by
    unfold toPy at h
    obtain ⟨ps, hp, rfl⟩ := Option.map_eq_some_iff.mp h
    obtain ⟨a, vs, rfl, hs, hr⟩ := r
    exact .lst (ex.seq hs) (toPys_dp ex hp hr)
  | .ty _, _, _, h, _ => by cases h
  | .adr _, _, _, h, _ => by cases h
  | .loc _, _, _, h, _ => by cases h
  | .fdk _ _ _, _, _, h, _ => by cases h
theorem toPys_dp (ex : Same H0.h H) : ∀ {ds : List D} {vs : List V} {ps : List PyData}, toPys ds = some ps → Reps C H0 as ds vs → DpAll C.K H vs ps
  | [], _, _, h, r => by
    cases h
    have r : _ = [] := r
    subst r
    exact .nil
  | d :: ds, _, _, h, r => by
    unfold toPys at h
    obtain ⟨p, hp, h⟩ := Option.bind_eq_some_iff.mp h
    obtain ⟨ps, hps, rfl⟩ := Option.map_eq_some_iff.mp h
    obtain ⟨v, r', rfl, h1, h2⟩ := r
    exact .cons (toPy_dp ex hp h1) (toPys_dp ex hps h2)
end
end
/-- data of a value, a mutable list's too -/
def dat (d : D) (st : Sto) : Option PyData := match d with
  | .loc n => match st[n]? with
    | some (.lst ds) => (toPys ds).map .list
    | _ => none
  | d => toPy d
theorem dat_dp {C : Cy} {H0 : Hb} {H : Hp} {as : List Addr} {st : Sto} (w : WR C H0 as st H) {d : D} {v : V} {p : PyData} (h : dat d st = some p) (r : Rep C H0 as d v) : Dp C.K H v p := by
  cases d with
  | loc n =>
    unfold dat at h
    dsimp only at h
    split at h
    · rename_i ds he
      obtain ⟨ps, hp, rfl⟩ := Option.map_eq_some_iff.mp h
      obtain ⟨a, vs, ha, _, h1, h2⟩ := w.loc he
      obtain ⟨a', ha', rfl⟩ := r
      rw [ha] at ha'
      cases ha'
      exact .lst (SqL.of h1) (toPys_dp w.ex hp h2)
    · cases h
  | _ => exact toPy_dp w.ex h r

/-! ### operators -/
def fAdd (mu : Bool) : D → D → Sto → Option (D × Sto)
  | .int i, .int j, st => some (.int (i + j), st)
  | .str x, .str y, st => if x.length + y.length ≤ sizeLine then some (.str (x ++ y), st) else none
  | .tup xs, .tup ys, st => if xs.length + ys.length ≤ sizeLine then some (.tup (xs ++ ys), st) else none
  | a, b, st => (lookL a st).bind fun xs => (lookL b st).bind fun ys => if xs.length + ys.length ≤ sizeLine then some (alloc mu (xs ++ ys) st) else none
def fSub : D → D → Sto → Option (D × Sto)
  | .int i, .int j, st => some (.int (i - j), st)
  | _, _, _ => none
def fI (c : Int → Int → Bool) (g : Int → Int → Int) : D → D → Sto → Option (D × Sto)
  | .int i, .int j, st => if c i j = true then some (.int (g i j), st) else none
  | _, _, _ => none
def fB (g : Int → Int → Bool) : D → D → Sto → Option (D × Sto)
  | .int i, .int j, st => some (.bl (g i j), st)
  | _, _, _ => none
/-- not great; told so that no check reckons it out (Nat.ble by natAbs) -/
def small (i : Int) : Bool := Nat.ble i.natAbs 1152921504606846976
theorem small_le {i : Int} (h : small i = true) : -1152921504606846976 ≤ i ∧ i ≤ 1152921504606846976 := by
  have := Nat.le_of_ble_eq_true h
  omega
theorem small_of {i : Int} (h : -1152921504606846976 ≤ i ∧ i ≤ 1152921504606846976) : small i = true := Nat.ble_eq_true_of_le (by omega)
def cMul (i j : Int) : Bool := small i || small j
def cDiv (_ j : Int) : Bool := decide (0 < j) && decide (j.natAbs.log2 < 9000)
def cMod (_ j : Int) : Bool := decide (0 < j)
def cPow (i j : Int) : Bool := decide (0 ≤ j) && Nat.ble j.natAbs 1000000 && small i
theorem cPow_ok {i j : Int} (h : cPow i j = true) : 0 ≤ j ∧ j ≤ 1000000 ∧ i.natAbs < 2 ^ 64 := by
  unfold cPow at h
  simp only [Bool.and_eq_true, decide_eq_true_eq] at h
  have a := Nat.le_of_ble_eq_true h.1.2
  have b := Nat.le_of_ble_eq_true h.2
  refine ⟨h.1.1, by omega, Nat.lt_of_le_of_lt b (by decide)⟩
def fMulI := fI cMul fun i j => i * j
def fDiv := fI cDiv fun i j => i / j
def fMod := fI cMod fun i j => i % j
def fPow := fI cPow fun i j => i ^ j.toNat
def fShl := fI cPow fun i j => i * 2 ^ j.toNat
def fMul (mu : Bool) : D → D → Sto → Option (D × Sto)
  | .int i, .int j, st => if cMul i j = true then some (.int (i * j), st) else none
  | a, .int k, st => (lookL a st).bind fun xs => if small k = true ∧ xs.length * k.toNat ≤ sizeLine then some (alloc mu (List.replicate k.toNat xs).flatten st) else none
  | _, _, _ => none
def fLt : D → D → Sto → Option (D × Sto)
  | .int i, .int j, st => some (.bl (decide (i < j)), st)
  | .str x, .str y, st => some (.bl (decide (x.cps.toList < y.cps.toList)), st)
  | _, _, _ => none
def fLe := fB fun i j => decide (i ≤ j)
def fGt := fB fun i j => decide (j < i)
def fGe := fB fun i j => decide (j ≤ i)
/-- == -/
def eqD (a b : D) (st : Sto) : Option Bool := match a, b with
  | .int i, .int j => some (decide (i = j))
  | .str x, .str y => some (decide (x = y))
  | .bl x, .bl y => some (decide (x = y))
  | a, b => (dat a st).bind fun p => (dat b st).bind fun q => if SeqAt.shaped p = true ∧ SeqAt.shaped q = true then some (PyData.eqv p q) else none
def fEq (a b : D) (st : Sto) : Option (D × Sto) := (eqD a b st).map fun r => (.bl r, st)
def fNe (a b : D) (st : Sto) : Option (D × Sto) := (eqD a b st).map fun r => (.bl (!r), st)
/-- in -/
def flatD : D → Bool
  | .non => true
  | .bl _ => true
  | .int _ => true
  | .str _ => true
  | _ => false
def eqF : D → D → Bool
  | .non, .non => true
  | .bl a, .bl b => a == b
  | .bl a, .int b => (if a then 1 else 0) == b
  | .int a, .bl b => a == (if b then 1 else 0)
  | .int a, .int b => a == b
  | .str a, .str b => a == b
  | _, _ => false
def inD (x : D) (ds : List D) : Bool := ds.any fun y => eqF y x
def fIn (neg : Bool) (a b : D) (st : Sto) : Option (D × Sto) := (look b st).bind fun ds => if flatD a = true ∧ ds.all flatD = true then some (.bl (if neg then !inD a ds else inD a ds), st) else none
/-- is None -/
def isNon : D → Bool
  | .non => true
  | _ => false
def fIsN (neg : Bool) (a b : D) (st : Sto) : Option (D × Sto) := match b with
  | .non => some (.bl (if neg then !isNon a else isNon a), st)
  | _ => none
def fNeg : D → Sto → Option (D × Sto)
  | .int i, st => some (.int (-i), st)
  | _, _ => none
/-- a[i] -/
def fIx (a b : D) (st : Sto) : Option (D × Sto) := match b with
  | .int i => (look a st).bind fun ds => (atI ds i).map (·, st)
  | _ => none

section
variable {C : Cy} {X : Cx}
theorem rep_int {H0 : Hb} {as : List Addr} {i : Int} {x : V} (r : Rep C H0 as (.int i) x) : x = .int i := r
theorem rep_str {H0 : Hb} {as : List Addr} {i : Str} {x : V} (r : Rep C H0 as (.str i) x) : x = .str i := r
theorem rep_bl {H0 : Hb} {as : List Addr} {i : Bool} {x : V} (r : Rep C H0 as (.bl i) x) : x = .bl i := r
theorem Rep.notFlat_tup {H0 : Hb} {as : List Addr} {ds : List D} {x : V} (r : Rep C H0 as (.tup ds) x) : ∃ a, x = .ref a := let ⟨a, _, e, _⟩ := r; ⟨a, e⟩

theorem ok_fI {c : Int → Int → Bool} {P : Int → Int → Prop} {g : Int → Int → Int} (h : ∀ i j, c i j = true → P i j) : Ok2 C (rI P fun i j => .int (g i j)) (fI c g) := by
  intro H0 as st H dx dy x y d st' Q w rx ry hf k
  cases dx with
  | int i =>
    cases dy with
    | int j =>
      cases rep_int rx
      cases rep_int ry
      unfold fI at hf
      dsimp only at hf
      split at hf
      · rename_i hc
        cases hf
        exact ⟨i, j, rfl, rfl, h _ _ hc, k.val w rfl⟩
      · cases hf
    | _ => cases hf
  | _ => cases hf
theorem ok_fB {g : Int → Int → Bool} : Ok2 C (rI0 fun i j => .bl (g i j)) (fB g) := by
  intro H0 as st H dx dy x y d st' Q w rx ry hf k
  cases dx with
  | int i =>
    cases dy with
    | int j =>
      cases rep_int rx
      cases rep_int ry
      cases hf
      exact ⟨i, j, rfl, rfl, k.val w rfl⟩
    | _ => cases hf
  | _ => cases hf
theorem ok_sub : Ok2 C (rI0 fun i j => .int (i - j)) fSub := by
  intro H0 as st H dx dy x y d st' Q w rx ry hf k
  cases dx with
  | int i =>
    cases dy with
    | int j =>
      cases rep_int rx
      cases rep_int ry
      cases hf
      exact ⟨i, j, rfl, rfl, k.val w rfl⟩
    | _ => cases hf
  | _ => cases hf
def rAddA (K : PySem.W.Frag) : R2 := fun x y H Q => (rI0 fun i j => .int (i + j)) x y H Q ∨ (∃ i j, x = .str i ∧ y = .str j ∧ i.length + j.length ≤ sizeLine ∧ Q (.str (i ++ j)) H) ∨ rCatA K x y H Q ∨ rCat x y H Q
theorem op_addA : OpR X (binaryOp .Add) (rAddA X.K) := OpR.or op_add (OpR.or op_add_str (OpR.or op_catA op_cat))
theorem catL {mu : Bool} {H0 : Hb} {as : List Addr} {st st' : Sto} {H : Hp} {dx dy d : D} {x y : V} {Q : VK} (w : WR C H0 as st H) (rx : Rep C H0 as dx x) (ry : Rep C H0 as dy y)
    (hf : ((lookL dx st).bind fun xs => (lookL dy st).bind fun ys => if xs.length + ys.length ≤ sizeLine then some (alloc mu (xs ++ ys) st) else none) = some (d, st')) (k : KE C H0 as st' d Q) : rCat x y H Q := by
  obtain ⟨xs, hx, hf⟩ := Option.bind_eq_some_iff.mp hf
  obtain ⟨ys, hy, hf⟩ := Option.bind_eq_some_iff.mp hf
  obtain ⟨a, vs, rfl, ha, r1⟩ := lookL_seq w rx hx
  obtain ⟨b, us, rfl, hb, r2⟩ := lookL_seq w ry hy
  split at hf
  · rename_i hl
    have hf := Option.some.inj hf
    exact ⟨a, b, vs, us, rfl, rfl, ha, hb, by rw [← r1.length, ← r2.length]; exact hl, k.newA hf w (r1.append r2)⟩
  · cases hf
theorem ok_add {mu : Bool} : Ok2 C (rAddA C.K) (fAdd mu) := by
  intro H0 as st H dx dy x y d st' Q w rx ry hf k
  cases dx with
  | int i =>
    cases dy with
    | int j =>
      cases rep_int rx
      cases rep_int ry
      cases hf
      exact .inl ⟨i, j, rfl, rfl, k.val w rfl⟩
    | _ => cases hf
  | str i =>
    cases dy with
    | str j =>
      cases rep_str rx
      cases rep_str ry
      unfold fAdd at hf
      dsimp only at hf
      split at hf
      · rename_i hl
        cases hf
        exact .inr (.inl ⟨i, j, rfl, rfl, hl, k.val w rfl⟩)
      · cases hf
    | _ => cases hf
  | tup xs =>
    cases dy with
    | tup ys =>
      unfold fAdd at hf
      dsimp only at hf
      split at hf
      · rename_i hl
        cases hf
        obtain ⟨a, vs, rfl, ha, r1⟩ := rx
        obtain ⟨b, us, rfl, hb, r2⟩ := ry
        refine .inr (.inr (.inl ⟨a, b, vs, us, rfl, rfl, same_seqT w.ex ha, same_seqT w.ex hb, by rw [← r1.length, ← r2.length]; exact hl, fun e => ?_, fun _ e => ?_, fun _ _ => k.newT w (r1.append r2)⟩))
        · subst e
          have e : xs = [] := List.length_eq_zero_iff.mp r1.length
          subst e
          exact k.val w ⟨b, us, rfl, hb, r2⟩
        · subst e
          have e : ys = [] := List.length_eq_zero_iff.mp r2.length
          subst e
          rw [List.append_nil] at k
          exact k.val w ⟨a, vs, rfl, ha, r1⟩
      · cases hf
    | _ => cases hf
  | lst xs => exact .inr (.inr (.inr (catL w rx ry hf k)))
  | loc n => exact .inr (.inr (.inr (catL w rx ry hf k)))
  | _ => cases hf
def rMulA : R2 := fun x y H Q => (rI CMul fun i j => .int (i * j)) x y H Q ∨ rRep x y H Q
theorem op_mulA : OpR X (binaryOp .Mult) rMulA := OpR.or op_mul op_rep
theorem Reps.flat {H0 : Hb} {as : List Addr} {ds : List D} {vs : List V} (r : Reps C H0 as ds vs) : ∀ n, Reps C H0 as (List.replicate n ds).flatten (List.replicate n vs).flatten
  | 0 => rfl
  | n + 1 => by
    rw [List.replicate_succ, List.replicate_succ, List.flatten_cons, List.flatten_cons]
    exact r.append (Reps.flat r n)
theorem ok_mul {mu : Bool} : Ok2 C rMulA (fMul mu) := by
  intro H0 as st H dx dy x y d st' Q w rx ry hf k
  have lists : ∀ i : Int, dy = .int i → ((lookL dx st).bind fun xs => if small i = true ∧ xs.length * i.toNat ≤ sizeLine then some (alloc mu (List.replicate i.toNat xs).flatten st) else none) = some (d, st') → rMulA x y H Q := by
    intro i e hf'
    clear hf
    have hf := hf'
    subst e
    cases rep_int ry
    obtain ⟨xs, hx, hf⟩ := Option.bind_eq_some_iff.mp hf
    obtain ⟨a, vs, rfl, ha, r1⟩ := lookL_seq w rx hx
    split at hf
    · rename_i hl
      have hf := Option.some.inj hf
      have hs := small_le hl.1
      have e63 : (2 : Int) ^ 63 = 9223372036854775808 := by decide
      exact .inr ⟨a, i, vs, rfl, rfl, ha, by omega, by omega, by rw [← r1.length]; exact hl.2, k.newA hf w (r1.flat _)⟩
    · cases hf
  cases dy with
  | int j =>
    cases dx with
    | int i =>
      cases rep_int rx
      cases rep_int ry
      unfold fMul at hf
      dsimp only at hf
      split at hf
      · rename_i hc
        cases hf
        exact .inl ⟨i, j, rfl, rfl, by
          have e64 : (2 : Int) ^ 64 = 18446744073709551616 := by decide
          rcases Bool.or_eq_true _ _ ▸ hc with h | h
          · have := small_le h
            exact .inl (by omega)
          · have := small_le h
            exact .inr (by omega), k.val w rfl⟩
      · cases hf
    | lst xs => exact lists j rfl hf
    | loc n => exact lists j rfl hf
    | _ => cases hf
  | _ => cases dx <;> cases hf
def rLtA : R2 := fun x y H Q => (rI0 fun i j => .bl (decide (i < j))) x y H Q ∨ (∃ i j, x = .str i ∧ y = .str j ∧ Q (.bl (decide (i.cps.toList < j.cps.toList))) H)
theorem op_ltA : OpR X (compareOp .Lt) rLtA := OpR.or op_lt op_lt_str
theorem ok_lt : Ok2 C rLtA fLt := by
  intro H0 as st H dx dy x y d st' Q w rx ry hf k
  cases dx with
  | int i =>
    cases dy with
    | int j =>
      cases rep_int rx
      cases rep_int ry
      cases hf
      exact .inl ⟨i, j, rfl, rfl, k.val w rfl⟩
    | _ => cases hf
  | str i =>
    cases dy with
    | str j =>
      cases rep_str rx
      cases rep_str ry
      cases hf
      exact .inr ⟨i, j, rfl, rfl, k.val w rfl⟩
    | _ => cases hf
  | _ => cases hf
/-! == -/
def rEqA (K : PySem.W.Frag) : R2 := fun x y H Q => rEq x y H Q ∨ rEqD K x y H Q
def rNeA (K : PySem.W.Frag) : R2 := fun x y H Q => rNe x y H Q ∨ rNeD K x y H Q
theorem op_eqA (hu : X.A.units + 64 < cLine) : OpR X (compareOp .Eq) (rEqA X.K) := OpR.or op_eq (op_eqD hu)
theorem op_neA (hu : X.A.units + 64 < cLine) : OpR X (compareOp .NotEq) (rNeA X.K) := OpR.or op_ne (op_neD hu)
theorem eqD_ok {H0 : Hb} {as : List Addr} {st : Sto} {H : Hp} {dx dy : D} {x y : V} {b : Bool} (w : WR C H0 as st H) (rx : Rep C H0 as dx x) (ry : Rep C H0 as dy y) (h : eqD dx dy st = some b) :
    (scal x y = true ∧ decide (x = y) = b) ∨ ∃ d e, Dp C.K H x d ∧ Dp C.K H y e ∧ SeqAt.shaped d = true ∧ SeqAt.shaped e = true ∧ PyData.eqv d e = b := by
  have gen : ((dat dx st).bind fun p => (dat dy st).bind fun q => if SeqAt.shaped p = true ∧ SeqAt.shaped q = true then some (PyData.eqv p q) else none) = some b → ∃ d e, Dp C.K H x d ∧ Dp C.K H y e ∧ SeqAt.shaped d = true ∧ SeqAt.shaped e = true ∧ PyData.eqv d e = b := by
    intro h
    obtain ⟨p, hp, h⟩ := Option.bind_eq_some_iff.mp h
    obtain ⟨q, hq, h⟩ := Option.bind_eq_some_iff.mp h
    split at h
    · rename_i hs
      exact ⟨p, q, dat_dp w hp rx, dat_dp w hq ry, hs.1, hs.2, Option.some.inj h⟩
    · cases h
  unfold eqD at h
  split at h
  · rename_i i j
    cases rep_int rx
    cases rep_int ry
    refine .inl ⟨rfl, ?_⟩
    rw [← Option.some.inj h, dec_int]
    rfl
  · cases rep_str rx
    cases rep_str ry
    refine .inl ⟨rfl, ?_⟩
    rw [← Option.some.inj h, dec_str]
    exact Bool.beq_eq_decide_eq _ _
  · cases rep_bl rx
    cases rep_bl ry
    refine .inl ⟨rfl, ?_⟩
    rw [← Option.some.inj h, dec_bl]
    exact Bool.beq_eq_decide_eq _ _
  · exact .inr (gen h)
theorem ok_eq : Ok2 C (rEqA C.K) fEq := by
  intro H0 as st H dx dy x y d st' Q w rx ry hf k
  obtain ⟨b, hb, e⟩ := Option.map_eq_some_iff.mp hf
  cases e
  rcases eqD_ok w rx ry hb with ⟨h1, h2⟩ | ⟨p, q, h1, h2, h3, h4, h5⟩
  · exact .inl ⟨h1, k.val w (by rw [h2]; rfl)⟩
  · exact .inr ⟨p, q, h1, h2, h3, h4, k.val w (by rw [h5]; rfl)⟩
theorem ok_ne : Ok2 C (rNeA C.K) fNe := by
  intro H0 as st H dx dy x y d st' Q w rx ry hf k
  obtain ⟨b, hb, e⟩ := Option.map_eq_some_iff.mp hf
  cases e
  rcases eqD_ok w rx ry hb with ⟨h1, h2⟩ | ⟨p, q, h1, h2, h3, h4, h5⟩
  · exact .inl ⟨h1, k.val w (by rw [h2]; rfl)⟩
  · exact .inr ⟨p, q, h1, h2, h3, h4, k.val w (by rw [h5]; rfl)⟩
/-! in -/
theorem flat_ok {H0 : Hb} {as : List Addr} {d : D} {x : V} (r : Rep C H0 as d x) (h : flatD d = true) : flatV x = true ∧ ∀ e y, Rep C H0 as e y → flatD e = true → eqV y x = eqF e d := by
  cases d with
  | non => cases (show x = .non from r); exact ⟨rfl, fun e y re he => by cases e <;> first | (cases he; done) | (cases (show y = _ from re); rfl)⟩
  | bl b => cases (show x = .bl b from r); exact ⟨rfl, fun e y re he => by cases e <;> first | (cases he; done) | (cases (show y = _ from re); rfl)⟩
  | int b => cases (show x = .int b from r); exact ⟨rfl, fun e y re he => by cases e <;> first | (cases he; done) | (cases (show y = _ from re); rfl)⟩
  | str b => cases (show x = .str b from r); exact ⟨rfl, fun e y re he => by cases e <;> first | (cases he; done) | (cases (show y = _ from re); rfl)⟩
  | _ => cases h
theorem inD_ok {H0 : Hb} {as : List Addr} {d : D} {x : V} (r : Rep C H0 as d x) (h : flatD d = true) : ∀ {ds : List D} {vs : List V}, Reps C H0 as ds vs → ds.all flatD = true → vs.all flatV = true ∧ inV x vs = inD d ds
  | [], vs, hr, _ => by
    cases (show vs = [] from hr)
    exact ⟨rfl, rfl⟩
  | e :: ds, vs, hr, ha => by
    obtain ⟨v, r', rfl, h1, h2⟩ := hr
    rw [List.all_cons, Bool.and_eq_true] at ha
    obtain ⟨i1, i2⟩ := inD_ok r h h2 ha.2
    refine ⟨by rw [List.all_cons, (flat_ok h1 ha.1).1, i1]; rfl, ?_⟩
    unfold inV inD at *
    rw [List.any_cons, List.any_cons, i2, (flat_ok r h).2 e v h1 ha.1]
theorem ok_in {neg : Bool} : Ok2 C (rIn C.K neg) (fIn neg) := by
  intro H0 as st H dx dy x y d st' Q w rx ry hf k
  obtain ⟨ds, hd, hf⟩ := Option.bind_eq_some_iff.mp hf
  split at hf
  · rename_i hc
    cases hf
    obtain ⟨a, vs, rfl, hs, hr⟩ := look_seq w ry hd
    obtain ⟨h1, h2⟩ := inD_ok rx hc.1 hr hc.2
    exact ⟨a, vs, rfl, hs, (flat_ok rx hc.1).1, h1, k.val w (by rw [h2]; cases neg <;> rfl)⟩
  · cases hf
theorem isNon_ok {H0 : Hb} {as : List Addr} {d : D} {x : V} (r : Rep C H0 as d x) : decide (x = .non) = isNon d := by
  cases d with
  | non => cases (show x = .non from r); rfl
  | bl b => cases (show x = .bl b from r); rfl
  | int b => cases (show x = .int b from r); rfl
  | str b => cases (show x = .str b from r); rfl
  | ty b => cases (show x = .ty b from r); rfl
  | adr b => cases (show x = .ref b from r); rfl
  | tup ds => obtain ⟨a, _, rfl, _⟩ := r; rfl
  | lst ds => obtain ⟨a, _, rfl, _⟩ := r; rfl
  | fro ds => obtain ⟨a, _, rfl, _⟩ := r; rfl
  | loc n => obtain ⟨a, _, rfl⟩ := r; rfl
  | fdk n ks ds => obtain ⟨a, _, _, _, rfl, _⟩ := r; rfl
theorem ok_isN : Ok2 C (fun x y H Q => y = .non ∧ Q (.bl (decide (x = .non))) H) (fIsN false) := by
  intro H0 as st H dx dy x y d st' Q w rx ry hf k
  unfold fIsN at hf
  split at hf
  · cases hf
    exact ⟨ry, k.val w (by rw [isNon_ok rx]; rfl)⟩
  · cases hf
theorem ok_notN : Ok2 C (fun x y H Q => y = .non ∧ Q (.bl (!decide (x = .non))) H) (fIsN true) := by
  intro H0 as st H dx dy x y d st' Q w rx ry hf k
  unfold fIsN at hf
  split at hf
  · cases hf
    exact ⟨ry, k.val w (by rw [isNon_ok rx]; rfl)⟩
  · cases hf
theorem ok_neg : Ok1 C (rU fun i => .int (-i)) fNeg := by
  intro H0 as st H dx x d st' Q w rx hf k
  cases dx with
  | int i =>
    cases rep_int rx
    cases hf
    exact ⟨i, rfl, k.val w rfl⟩
  | _ => cases hf
/-! subscripts -/
def rIxA (K : PySem.W.Frag) : R2 := fun x y H Q => rIxL K x y H Q ∨ rIxT K x y H Q
theorem ix_A : IxR X (rIxA X.K) := IxR.or ix_list ix_tup
theorem atI_rep {H0 : Hb} {as : List Addr} {ds : List D} {vs : List V} {i : Int} {d : D} (r : Reps C H0 as ds vs) (h : atI ds i = some d) : ∃ v, atI vs i = some v ∧ Rep C H0 as d v := by
  unfold atI at h ⊢
  rw [← r.length]
  obtain ⟨j, hj, h⟩ := Option.bind_eq_some_iff.mp h
  obtain ⟨v, hv, h2⟩ := r.get h
  exact ⟨v, by rw [hj]; exact hv, h2⟩
theorem ok_ix : Ok2 C (rIxA C.K) fIx := by
  intro H0 as st H dx dy x y d st' Q w rx ry hf k
  cases dy with
  | int i =>
    cases rep_int ry
    obtain ⟨ds, hd, hf⟩ := Option.bind_eq_some_iff.mp hf
    obtain ⟨e, he, h3⟩ := Option.map_eq_some_iff.mp hf
    cases h3
    obtain ⟨a, vs, rfl, hs, hr⟩ := look_seq w rx hd
    obtain ⟨v, hv, hr2⟩ := atI_rep hr he
    rcases hs with hs | hs
    · exact .inl ⟨a, vs, i, v, rfl, rfl, hs, hv, k.val w hr2⟩
    · exact .inr ⟨a, vs, i, v, rfl, rfl, hs, hv, k.val w hr2⟩
  | _ => cases hf
end
end My


namespace My
open PySem PySem.Spec PyProof.Rows L2

/-! ### built-in functions on data -/
def intsOf : List D → Option (List Int)
  | [] => some []
  | .int i :: ds => (intsOf ds).map (i :: ·)
  | _ :: _ => none
def boolsOf : List D → Option (List Bool)
  | [] => some []
  | .bl i :: ds => (boolsOf ds).map (i :: ·)
  | _ :: _ => none
theorem intsOf_eq : ∀ {ds : List D} {ns : List Int}, intsOf ds = some ns → ds = ns.map D.int
  | [], ns, h => by
    cases h
    rfl
  | d :: ds, ns, h => by
    cases d with
    | int i =>
      unfold intsOf at h
      obtain ⟨ms, hm, rfl⟩ := Option.map_eq_some_iff.mp h
      rw [intsOf_eq hm]
      rfl
    | _ => cases h
theorem boolsOf_eq : ∀ {ds : List D} {ns : List Bool}, boolsOf ds = some ns → ds = ns.map D.bl
  | [], ns, h => by
    cases h
    rfl
  | d :: ds, ns, h => by
    cases d with
    | bl i =>
      unfold boolsOf at h
      obtain ⟨ms, hm, rfl⟩ := Option.map_eq_some_iff.mp h
      rw [boolsOf_eq hm]
      rfl
    | _ => cases h
theorem intsOf_map : ∀ (ns : List Int), intsOf (ns.map D.int) = some ns
  | [] => rfl
  | n :: ns => by
    show (intsOf (ns.map D.int)).map (n :: ·) = _
    rw [intsOf_map ns]
    rfl
theorem boolsOf_map : ∀ (ns : List Bool), boolsOf (ns.map D.bl) = some ns
  | [] => rfl
  | n :: ns => by
    show (boolsOf (ns.map D.bl)).map (n :: ·) = _
    rw [boolsOf_map ns]
    rfl
theorem Reps.bools {C : Cy} {H : Hb} {as : List Addr} {ns : List Bool} {vs : List V} (h : Reps C H as (ns.map D.bl) vs) : vs = ns.map V.bl := by
  induction ns generalizing vs with
  | nil => exact h
  | cons n ns ih =>
    obtain ⟨v, r, rfl, h1, h2⟩ := h
    have h1 : v = .bl n := h1
    rw [h1, ih h2]
    rfl
/-- ascending -/
def sortI (ns : List Int) : List Int := ns.mergeSort fun a b => decide (a ≤ b)
theorem sortI_perm (ns : List Int) : (sortI ns).Perm ns := List.mergeSort_perm ns _
theorem sortI_pair (ns : List Int) : (sortI ns).Pairwise (· ≤ ·) := by
  have h := List.pairwise_mergeSort (le := fun a b : Int => decide (a ≤ b)) (fun a b c h1 h2 => by simp at *; omega) (fun a b => by simp; omega) ns
  exact h.imp fun h => of_decide_eq_true h
theorem sort_uniq : ∀ {as bs : List Int}, as.Perm bs → as.Pairwise (· ≤ ·) → bs.Pairwise (· ≤ ·) → as = bs
  | [], bs, p, _, _ => (List.nil_perm.mp p).symm
  | a :: as, bs, p, h1, h2 => by
    cases bs with
    | nil => exact absurd p.symm (List.not_perm_nil_cons a as)
    | cons b bs =>
      have hab : a = b := by
        have m1 : a ∈ b :: bs := p.mem_iff.mp (by simp)
        have m2 : b ∈ a :: as := p.mem_iff.mpr (by simp)
        rcases List.mem_cons.mp m1 with e | m1
        · exact e
        · rcases List.mem_cons.mp m2 with e | m2
          · exact e.symm
          · have l1 := List.rel_of_pairwise_cons h1 m2
            have l2 := List.rel_of_pairwise_cons h2 m1
            omega
      subst hab
      rw [sort_uniq (List.Perm.cons_inv p) h1.of_cons h2.of_cons]
theorem sortI_eq {ns ms : List Int} (p : ms.Perm ns) (h : ms.Pairwise (· ≤ ·)) : ms = sortI ns := sort_uniq (p.trans (sortI_perm ns).symm) h (sortI_pair ns)

def fLen (ds : List D) (st : Sto) : Option (D × Sto) := match ds with
  | [.str x] => if x.length ≤ sizeLine then some (.int x.length, st) else none
  | [d] => (look d st).map fun es => (.int es.length, st)
  | _ => none
def fInt (ds : List D) (st : Sto) : Option (D × Sto) := match ds with
  | [.int i] => some (.int i, st)
  | [.bl b] => some (.int (if b then 1 else 0), st)
  | _ => none
def fAbs (ds : List D) (st : Sto) : Option (D × Sto) := match ds with
  | [.int i] => some (.int (if i < 0 then -i else i), st)
  | _ => none
def fMax (ds : List D) (st : Sto) : Option (D × Sto) := match ds with
  | [.int i, .int j] => some (.int (if j > i then j else i), st)
  | [d] => (look d st).bind fun es => (intsOf es).bind fun ns => ns.max?.map fun m => (.int m, st)
  | _ => none
def fMin (ds : List D) (st : Sto) : Option (D × Sto) := match ds with
  | [.int i, .int j] => some (.int (if j < i then j else i), st)
  | [d] => (look d st).bind fun es => (intsOf es).bind fun ns => ns.min?.map fun m => (.int m, st)
  | _ => none
def fTuple (ds : List D) (st : Sto) : Option (D × Sto) := match ds with
  | [d] => (look d st).map fun es => (.tup es, st)
  | _ => none
def fList (mu : Bool) (ds : List D) (st : Sto) : Option (D × Sto) := match ds with
  | [d] => (look d st).map fun es => alloc mu es st
  | _ => none
def fSorted (mu : Bool) (ds : List D) (st : Sto) : Option (D × Sto) := match ds with
  | [d] => (lookL d st).bind fun es => (intsOf es).map fun ns => alloc mu ((sortI ns).map D.int) st
  | _ => none
def fSum (ds : List D) (st : Sto) : Option (D × Sto) := match ds with
  | [d] => (lookL d st).bind fun es => (intsOf es).map fun ns => (.int ns.sum, st)
  | _ => none
def fAll (ds : List D) (st : Sto) : Option (D × Sto) := match ds with
  | [d] => (lookL d st).bind fun es => (boolsOf es).map fun ns => (.bl (ns.all id), st)
  | _ => none
def fAny (ds : List D) (st : Sto) : Option (D × Sto) := match ds with
  | [d] => (lookL d st).bind fun es => (boolsOf es).map fun ns => (.bl (ns.any id), st)
  | _ => none
def fGcd (ds : List D) (st : Sto) : Option (D × Sto) := match ds with
  | [.int i, .int j] => some (.int ((Nat.gcd i.natAbs j.natAbs : Nat) : Int), st)
  | _ => none
/-- a value's type -/
def tyD (d : D) (st : Sto) : Option String := match d with
  | .non => some "NoneType"
  | .bl _ => some "bool"
  | .int _ => some "int"
  | .str _ => some "str"
  | .tup _ => some "tuple"
  | .lst _ => some "list"
  | .loc n => match st[n]? with
    | some (.lst _) => some "list"
    | some (.dK _) => some "dict"
    | some (.dT _) => some "dict"
    | _ => none
  | _ => none
def isi (a b : String) : Option Bool := match b with
  | "int" => some (a == "int" || a == "bool")
  | "bool" => some (a == "bool")
  | "str" => some (a == "str")
  | "tuple" => some (a == "tuple")
  | "list" => some (a == "list")
  | "dict" => some (a == "dict")
  | _ => none
def tyOk (a : String) : Bool := a == "NoneType" || a == "bool" || a == "int" || a == "str" || a == "tuple" || a == "list" || a == "dict"
def fIsi (ds : List D) (st : Sto) : Option (D × Sto) := match ds with
  | [d, .ty n] => (tyD d st).bind fun t => (isi t n).map fun b => (.bl b, st)
  | _ => none

section
variable {C : Cy} {X : Cx}
theorem reps1 {H : Hb} {as : List Addr} {d : D} {vs : List V} (r : Reps C H as [d] vs) : ∃ v, vs = [v] ∧ Rep C H as d v := by
  obtain ⟨v, r', rfl, h, e⟩ := r
  cases (show r' = [] from e)
  exact ⟨v, rfl, h⟩
theorem reps2 {H : Hb} {as : List Addr} {d d' : D} {vs : List V} (r : Reps C H as [d, d'] vs) : ∃ v v', vs = [v, v'] ∧ Rep C H as d v ∧ Rep C H as d' v' := by
  obtain ⟨v, r', rfl, h, e⟩ := r
  obtain ⟨v', rfl, h'⟩ := reps1 e
  exact ⟨v, v', rfl, h, h'⟩
def rLenA (K : PySem.W.Frag) : List V → Hp → VK → Prop := fun xs H Q => (∃ p ys, xs = [.ref p] ∧ (SqL K H p ys ∨ SqT K H p ys) ∧ Q (.int ys.length) H) ∨ ∃ z, xs = [.str z] ∧ z.length ≤ sizeLine ∧ Q (.int z.length) H
theorem call_lenA : CallR X (.builtin "len") (rLenA X.K) := CallR.or call_len_seq call_len_str
theorem ok_len : OkC C (rLenA C.K) fLen := by
  intro H0 as st H ds vs d st' Q w r hf k
  unfold fLen at hf
  split at hf
  · obtain ⟨v, rfl, rv⟩ := reps1 r
    cases rep_str rv
    split at hf
    · rename_i hl
      cases hf
      exact .inr ⟨_, rfl, hl, k.val w rfl⟩
    · cases hf
  · obtain ⟨v, rfl, rv⟩ := reps1 r
    obtain ⟨es, he, e⟩ := Option.map_eq_some_iff.mp hf
    cases e
    obtain ⟨a, us, rfl, hs, hr⟩ := look_seq w rv he
    exact .inl ⟨a, us, rfl, hs, k.val w (by rw [hr.length]; rfl)⟩
  · cases hf
theorem ok_int : OkC C (fun xs H Q => (∃ i, xs = [.int i] ∧ Q (.int i) H) ∨ ∃ k, xs = [.bl k] ∧ Q (.int (if k then 1 else 0)) H) fInt := by
  intro H0 as st H ds vs d st' Q w r hf k
  unfold fInt at hf
  split at hf
  · obtain ⟨v, rfl, rv⟩ := reps1 r
    cases rep_int rv
    cases hf
    exact .inl ⟨_, rfl, k.val w rfl⟩
  · obtain ⟨v, rfl, rv⟩ := reps1 r
    cases rep_bl rv
    cases hf
    exact .inr ⟨_, rfl, k.val w rfl⟩
  · cases hf
theorem ok_abs : OkC C (fun xs H Q => ∃ i, xs = [.int i] ∧ Q (.int (if i < 0 then -i else i)) H) fAbs := by
  intro H0 as st H ds vs d st' Q w r hf k
  unfold fAbs at hf
  split at hf
  · obtain ⟨v, rfl, rv⟩ := reps1 r
    cases rep_int rv
    cases hf
    exact ⟨_, rfl, k.val w rfl⟩
  · cases hf
def rMaxA (K : PySem.W.Frag) : List V → Hp → VK → Prop := fun xs H Q => (∃ i j, xs = [.int i, .int j] ∧ Q (.int (if j > i then j else i)) H) ∨ rMax K xs H Q
def rMinA (K : PySem.W.Frag) : List V → Hp → VK → Prop := fun xs H Q => (∃ i j, xs = [.int i, .int j] ∧ Q (.int (if j < i then j else i)) H) ∨ rMin K xs H Q
theorem call_maxA (hc : X.calm = true) : CallR X (.builtin "max") (rMaxA X.K) := CallR.or (call_max2 hc) (cr_max hc)
theorem call_minA (hc : X.calm = true) : CallR X (.builtin "min") (rMinA X.K) := CallR.or (call_min2 hc) (cr_min hc)
def fMaxL (ds : List D) (st : Sto) : Option (D × Sto) := match ds with
  | [.int i, .int j] => some (.int (if j > i then j else i), st)
  | [d] => (lookL d st).bind fun es => (intsOf es).bind fun ns => ns.max?.map fun m => (.int m, st)
  | _ => none
def fMinL (ds : List D) (st : Sto) : Option (D × Sto) := match ds with
  | [.int i, .int j] => some (.int (if j < i then j else i), st)
  | [d] => (lookL d st).bind fun es => (intsOf es).bind fun ns => ns.min?.map fun m => (.int m, st)
  | _ => none
theorem ok_max : OkC C (rMaxA C.K) fMaxL := by
  intro H0 as st H ds vs d st' Q w r hf k
  unfold fMaxL at hf
  split at hf
  · obtain ⟨v, v', rfl, rv, rv'⟩ := reps2 r
    cases rep_int rv
    cases rep_int rv'
    cases hf
    exact .inl ⟨_, _, rfl, k.val w rfl⟩
  · obtain ⟨v, rfl, rv⟩ := reps1 r
    obtain ⟨es, he, hf⟩ := Option.bind_eq_some_iff.mp hf
    obtain ⟨ns, hn, hf⟩ := Option.bind_eq_some_iff.mp hf
    obtain ⟨m, hm, e⟩ := Option.map_eq_some_iff.mp hf
    cases e
    obtain ⟨a, us, rfl, hs, hr⟩ := lookL_seq w rv he
    rw [intsOf_eq hn] at hr
    rw [hr.ints] at hs
    obtain ⟨m1, m2⟩ := List.max?_eq_some_iff.mp hm
    refine .inr ⟨a, ns, rfl, SqL.of hs, ?_, fun m' h1 h2 => ?_⟩
    · cases ns with
      | nil => cases hm
      | cons _ _ => exact Nat.succ_pos _
    · have e : m' = m := Int.le_antisymm (m2 m' h1) (h2 m m1)
      exact k.val w (by rw [e]; rfl)
  · cases hf
theorem ok_min : OkC C (rMinA C.K) fMinL := by
  intro H0 as st H ds vs d st' Q w r hf k
  unfold fMinL at hf
  split at hf
  · obtain ⟨v, v', rfl, rv, rv'⟩ := reps2 r
    cases rep_int rv
    cases rep_int rv'
    cases hf
    exact .inl ⟨_, _, rfl, k.val w rfl⟩
  · obtain ⟨v, rfl, rv⟩ := reps1 r
    obtain ⟨es, he, hf⟩ := Option.bind_eq_some_iff.mp hf
    obtain ⟨ns, hn, hf⟩ := Option.bind_eq_some_iff.mp hf
    obtain ⟨m, hm, e⟩ := Option.map_eq_some_iff.mp hf
    cases e
    obtain ⟨a, us, rfl, hs, hr⟩ := lookL_seq w rv he
    rw [intsOf_eq hn] at hr
    rw [hr.ints] at hs
    obtain ⟨m1, m2⟩ := List.min?_eq_some_iff.mp hm
    refine .inr ⟨a, ns, rfl, SqL.of hs, ?_, fun m' h1 h2 => ?_⟩
    · cases ns with
      | nil => cases hm
      | cons _ _ => exact Nat.succ_pos _
    · have e : m' = m := Int.le_antisymm (h2 m m1) (m2 m' h1)
      exact k.val w (by rw [e]; rfl)
  · cases hf
theorem ok_tuple : OkC C (fun xs H Q => ∃ p ys, xs = [.ref p] ∧ ((SqL C.K H p ys ∧ ∀ l, H l = none → Q (.ref l) (upd H l (.tup ys))) ∨ (SqT C.K H p ys ∧ Q (.ref p) H))) fTuple := by
  intro H0 as st H ds vs d st' Q w r hf k
  unfold fTuple at hf
  split at hf
  · rename_i d0
    obtain ⟨v, rfl, rv⟩ := reps1 r
    obtain ⟨es, he, e⟩ := Option.map_eq_some_iff.mp hf
    cases e
    cases d0 with
    | tup fs =>
      cases he
      obtain ⟨a, us, rfl, hs, hr⟩ := rv
      exact ⟨a, us, rfl, .inr ⟨same_seqT w.ex hs, k.val w ⟨a, us, rfl, hs, hr⟩⟩⟩
    | lst fs =>
      cases he
      obtain ⟨a, us, rfl, hs, hr⟩ := rv
      exact ⟨a, us, rfl, .inl ⟨SqL.of (w.ex _ _ hs), k.newT w hr⟩⟩
    | fro fs =>
      cases he
      obtain ⟨a, us, rfl, hs, hr⟩ := rv
      exact ⟨a, us, rfl, .inl ⟨w.ex.seq hs, k.newT w hr⟩⟩
    | loc n =>
      obtain ⟨a, us, rfl, hs, hr⟩ := lookL_seq w rv (d := .loc n) he
      exact ⟨a, us, rfl, .inl ⟨SqL.of hs, k.newT w hr⟩⟩
    | _ => cases he
  · cases hf
theorem ok_list {mu : Bool} : OkC C (fun xs H Q => ∃ p ys, xs = [.ref p] ∧ (SqL C.K H p ys ∨ SqT C.K H p ys) ∧ ∀ l, H l = none → Q (.ref l) (upd H l (.lst ys))) (fList mu) := by
  intro H0 as st H ds vs d st' Q w r hf k
  unfold fList at hf
  split at hf
  · obtain ⟨v, rfl, rv⟩ := reps1 r
    obtain ⟨es, he, e⟩ := Option.map_eq_some_iff.mp hf
    obtain ⟨a, us, rfl, hs, hr⟩ := look_seq w rv he
    exact ⟨a, us, rfl, hs, k.newA e w hr⟩
  · cases hf
theorem ok_sorted {mu : Bool} : OkC C (rSortedI C.K) (fSorted mu) := by
  intro H0 as st H ds vs d st' Q w r hf k
  unfold fSorted at hf
  split at hf
  · obtain ⟨v, rfl, rv⟩ := reps1 r
    obtain ⟨es, he, hf⟩ := Option.bind_eq_some_iff.mp hf
    obtain ⟨ns, hn, e⟩ := Option.map_eq_some_iff.mp hf
    obtain ⟨a, us, rfl, hs, hr⟩ := lookL_seq w rv he
    rw [intsOf_eq hn] at hr
    rw [hr.ints] at hs
    refine ⟨a, ns, rfl, SqL.of hs, fun ns' p hp hw hfr => ?_⟩
    rw [sortI_eq hp hw]
    exact k.newA e w (Reps.of_ints _) p hfr
  · cases hf
theorem ok_sum : OkC C (rSum C.K) fSum := by
  intro H0 as st H ds vs d st' Q w r hf k
  unfold fSum at hf
  split at hf
  · obtain ⟨v, rfl, rv⟩ := reps1 r
    obtain ⟨es, he, hf⟩ := Option.bind_eq_some_iff.mp hf
    obtain ⟨ns, hn, e⟩ := Option.map_eq_some_iff.mp hf
    cases e
    obtain ⟨a, us, rfl, hs, hr⟩ := lookL_seq w rv he
    rw [intsOf_eq hn] at hr
    rw [hr.ints] at hs
    exact ⟨a, ns, rfl, SqL.of hs, k.val w rfl⟩
  · cases hf
theorem ok_all : OkC C (rAll C.K) fAll := by
  intro H0 as st H ds vs d st' Q w r hf k
  unfold fAll at hf
  split at hf
  · obtain ⟨v, rfl, rv⟩ := reps1 r
    obtain ⟨es, he, hf⟩ := Option.bind_eq_some_iff.mp hf
    obtain ⟨ns, hn, e⟩ := Option.map_eq_some_iff.mp hf
    cases e
    obtain ⟨a, us, rfl, hs, hr⟩ := lookL_seq w rv he
    rw [boolsOf_eq hn] at hr
    rw [hr.bools] at hs
    exact ⟨a, ns, rfl, SqL.of hs, k.val w rfl⟩
  · cases hf
theorem ok_any : OkC C (rAny C.K) fAny := by
  intro H0 as st H ds vs d st' Q w r hf k
  unfold fAny at hf
  split at hf
  · obtain ⟨v, rfl, rv⟩ := reps1 r
    obtain ⟨es, he, hf⟩ := Option.bind_eq_some_iff.mp hf
    obtain ⟨ns, hn, e⟩ := Option.map_eq_some_iff.mp hf
    cases e
    obtain ⟨a, us, rfl, hs, hr⟩ := lookL_seq w rv he
    rw [boolsOf_eq hn] at hr
    rw [hr.bools] at hs
    exact ⟨a, ns, rfl, SqL.of hs, k.val w rfl⟩
  · cases hf
theorem ok_gcd : OkC C rGcd fGcd := by
  intro H0 as st H ds vs d st' Q w r hf k
  unfold fGcd at hf
  split at hf
  · obtain ⟨v, v', rfl, rv, rv'⟩ := reps2 r
    cases rep_int rv
    cases rep_int rv'
    cases hf
    exact ⟨_, _, rfl, k.val w rfl⟩
  · cases hf
/-- isinstance -/
theorem rd_tup {K : PySem.W.Frag} {H : Hp} {a : Addr} {vs : List V} (h : SqT K H a vs) : TyX K H (.ref a) (.type "tuple") := by
  rcases h with (h | ⟨o, h⟩) | ⟨o, its, n, h, hc, _⟩
  · exact .base (.tup h)
  · exact .fTuple h
  · exact .kTuple h hc
theorem tyD_ok {H0 : Hb} {as : List Addr} {st : Sto} {H : Hp} {d : D} {v : V} {t : String} (w : WR C H0 as st H) (r : Rep C H0 as d v) (h : tyD d st = some t) : TyX C.K H v (.type t) ∧ tyOk t = true := by
  cases d with
  | non => cases h; cases (show v = .non from r); exact ⟨.base .non, rfl⟩
  | bl b => cases h; cases (show v = .bl b from r); exact ⟨.base (.bl b), rfl⟩
  | int b => cases h; cases (show v = .int b from r); exact ⟨.base (.int b), rfl⟩
  | str b => cases h; cases (show v = .str b from r); exact ⟨.base (.str b), rfl⟩
  | tup ds =>
    cases h
    obtain ⟨a, vs, rfl, hs, _⟩ := r
    exact ⟨rd_tup (same_seqT w.ex hs), rfl⟩
  | lst ds =>
    cases h
    obtain ⟨a, vs, rfl, hs, _⟩ := r
    exact ⟨.base (.lst (w.ex _ _ hs)), rfl⟩
  | loc n =>
    obtain ⟨a, ha, rfl⟩ := r
    unfold tyD at h
    dsimp only at h
    split at h
    all_goals first | (cases h; done) | skip
    all_goals rename_i he
    all_goals cases h
    all_goals have hl := (List.getElem?_eq_some_iff.mp ha).1
    all_goals rcases w.own n a _ ha he with z | ⟨z, ho, h1, vs, rfl, h2⟩
    all_goals first | (cases z; done) | skip
    · exact ⟨.base (.lst h1), rfl⟩
    · exact ⟨.base (.dK h1), rfl⟩
    · exact ⟨.base (.dT h1), rfl⟩
  | _ => cases h
theorem kit_all : ∀ a ∈ ["NoneType", "bool", "int", "str", "tuple", "list", "dict"], ∀ b ∈ ["int", "bool", "str", "tuple", "list", "dict"], kitB a b = isi a b := by decide +kernel
theorem isi_in {a b : String} {r : Bool} (h : isi a b = some r) : b ∈ ["int", "bool", "str", "tuple", "list", "dict"] := by
  unfold isi at h
  split at h <;> first | (cases h; done) | simp
theorem tyOk_in {a : String} (h : tyOk a = true) : a ∈ ["NoneType", "bool", "int", "str", "tuple", "list", "dict"] := by
  unfold tyOk at h
  simp only [Bool.or_eq_true, beq_iff_eq, or_assoc] at h
  simp only [List.mem_cons, List.not_mem_nil, or_false]
  exact h
theorem ok_isi : OkC C (rIsi C.K) fIsi := by
  intro H0 as st H ds vs d st' Q w r hf k
  unfold fIsi at hf
  split at hf
  · rename_i d0 n
    obtain ⟨v, v', rfl, rv, rv'⟩ := reps2 r
    cases (show v' = .ty n from rv')
    obtain ⟨t, ht, hf⟩ := Option.bind_eq_some_iff.mp hf
    obtain ⟨b, hb, e⟩ := Option.map_eq_some_iff.mp hf
    cases e
    obtain ⟨h1, h2⟩ := tyD_ok w rv ht
    exact ⟨v, _, _, _, b, rfl, .ty n, h1, kit_ty ((kit_all _ (tyOk_in h2) _ (isi_in hb)).trans hb), k.val w rfl⟩
  · cases hf
end
end My


namespace My
open PySem PySem.Spec PyProof.Rows L2

/-! ### methods of lists -/
def mMt (f : D → List D → Sto → Option (D × Sto)) (a : ME) (r : MA) : ME := fun en st => (a en st).bind fun p => (lookL p.1 p.2).bind fun _ => (r en p.2).bind fun q => f p.1 q.1 q.2
def OkM (C : Cy) (r : V → List V → Hp → VK → Prop) (f : D → List D → Sto → Option (D × Sto)) : Prop := ∀ H0 as st H dx ds x vs d st' Q, WR C H0 as st H → Rep C H0 as dx x → Reps C H0 as ds vs → f dx ds st = some (d, st') → KE C H0 as st' d Q → r x vs H Q
def fAppend (a : D) (ds : List D) (st : Sto) : Option (D × Sto) := match a, ds with
  | .loc n, [d] => match st[n]? with
    | some (.lst es) => if es.length < sizeLine then some (.non, st.set n (.lst (es ++ [d]))) else none
    | _ => none
  | _, _ => none
def fPop (a : D) (ds : List D) (st : Sto) : Option (D × Sto) := match a, ds with
  | .loc n, [] => match st[n]? with
    | some (.lst es) => es[es.length - 1]?.map fun d => (d, st.set n (.lst es.dropLast))
    | _ => none
  | .loc n, [.int i] => match st[n]? with
    | some (.lst es) => if small i = true then (seqIndex? i es.length).bind fun k => es[k]?.map fun d => (d, st.set n (.lst (es.eraseIdx k))) else none
    | _ => none
  | _, _ => none
def fExtend (a : D) (ds : List D) (st : Sto) : Option (D × Sto) := match a, ds with
  | .loc n, [b] => match st[n]? with
    | some (.lst es) => (lookL b st).bind fun fs => if es.length + fs.length ≤ sizeLine then some (.non, st.set n (.lst (es ++ fs))) else none
    | _ => none
  | _, _ => none
section
variable {C : Cy} {X : Cx} {σ : L2.St} {H : Hp} {Q : VK} {ma mb : ME}
theorem em_mt {r : V → List V → Hp → VK → Prop} {f : D → List D → Sto → Option (D × Sto)} (ok : OkM C r f) {m : MA} : eM C (mMt f ma m) σ H Q → tBM C.K "list" r (eM C ma) (aM C m) σ H Q := by
  rintro ⟨H0, as, en, st, d, st', e, w, hm, k⟩
  unfold mMt at hm
  obtain ⟨⟨da, s1⟩, ha, hm⟩ := Option.bind_eq_some_iff.mp hm
  obtain ⟨ds, hl, hm⟩ := Option.bind_eq_some_iff.mp hm
  obtain ⟨⟨db, s2⟩, hb, hm⟩ := Option.bind_eq_some_iff.mp hm
  refine ⟨H0, as, en, st, da, s1, e, w, ha, fun x H1 as1 H1' l1 w1 r1 => ?_⟩
  obtain ⟨a, vs, rfl, hs, _⟩ := lookL_seq w1 r1 hl
  refine ⟨.inl ⟨rfl, vs, SqL.of hs⟩, H1, as1, en, s1, db, s2, e.mono l1, w1, hb, fun y H2 as2 H2' l2 w2 r2 => ?_⟩
  exact ok H2 as2 s2 H2' da db _ y d st' Q w2 (r1.mono l2) r2 hm (k.mono (l1.trans l2))
theorem em_mt0 {r : V → List V → Hp → VK → Prop} {f : D → List D → Sto → Option (D × Sto)} (ok : OkM C r f) : eM C (mMt f ma mNil) σ H Q → tBM0 C.K "list" r (eM C ma) σ H Q := by
  rintro ⟨H0, as, en, st, d, st', e, w, hm, k⟩
  unfold mMt at hm
  obtain ⟨⟨da, s1⟩, ha, hm⟩ := Option.bind_eq_some_iff.mp hm
  obtain ⟨ds, hl, hm⟩ := Option.bind_eq_some_iff.mp hm
  obtain ⟨⟨db, s2⟩, hb, hm⟩ := Option.bind_eq_some_iff.mp hm
  cases hb
  refine ⟨H0, as, en, st, da, s1, e, w, ha, fun x H1 as1 H1' l1 w1 r1 => ?_⟩
  obtain ⟨a, vs, rfl, hs, _⟩ := lookL_seq w1 r1 hl
  exact ⟨.inl ⟨rfl, vs, SqL.of hs⟩, ok H1 as1 s1 H1' da [] _ [] d st' Q w1 r1 rfl hm (k.mono l1)⟩
theorem KE.put {H0 : Hb} {as : List Addr} {st : Sto} {n : Nat} {a : Addr} {o : SO} {ho : HO} {d : D} {v : V} (k : KE C H0 as (st.set n o) d Q) (w : WR C H0 as st H) (ha : as[n]? = some a) (hn : H0.h a = none) (r : RepO C H0 as o ho) (hv : Rep C H0 as d v) : Q v (upd H a ho) :=
  k v H0 as _ Le.refl (w.put ha hn r) hv
theorem ok_append : OkM C rAppend fAppend := by
  intro H0 as st H dx ds x vs d st' Q w rx rs hf k
  unfold fAppend at hf
  split at hf
  · split at hf
    · rename_i he
      split at hf
      · rename_i hl
        cases hf
        obtain ⟨v, rfl, rv⟩ := reps1 rs
        obtain ⟨a, us, ha, hn, h1, hr⟩ := w.loc he
        obtain ⟨a', ha', rfl⟩ := rx
        rw [ha] at ha'
        cases ha'
        exact ⟨a, us, v, rfl, rfl, h1, by rw [← hr.length]; exact hl, k.put w ha hn ⟨_, rfl, hr.append (Reps.one rv)⟩ rfl⟩
      · cases hf
    · cases hf
  · cases hf
theorem Reps.init {H : Hb} {as : List Addr} {ds : List D} {vs : List V} (h : Reps C H as ds vs) : Reps C H as ds.dropLast vs.dropLast := by
  rw [List.dropLast_eq_take, List.dropLast_eq_take, h.length]
  exact h.take _
theorem Reps.erase {H : Hb} {as : List Addr} : ∀ {ds : List D} {vs : List V} (n : Nat), Reps C H as ds vs → Reps C H as (ds.eraseIdx n) (vs.eraseIdx n)
  | [], _, n, h => by
    have h : _ = [] := h
    subst h
    simp [Reps]
  | e :: ds, _, 0, h => by
    obtain ⟨v', r, rfl, h1, h2⟩ := h
    exact h2
  | e :: ds, _, n + 1, h => by
    obtain ⟨v', r, rfl, h1, h2⟩ := h
    exact ⟨v', _, rfl, h1, Reps.erase n h2⟩
def rPopA : V → List V → Hp → VK → Prop := fun x vs H Q => rPop x vs H Q ∨ rPopAt x vs H Q
theorem mt_popA : MtR X "list.pop" rPopA := MtR.or mt_pop mt_popAt
theorem ok_pop : OkM C rPopA fPop := by
  intro H0 as st H dx ds x vs d st' Q w rx rs hf k
  unfold fPop at hf
  split at hf
  · split at hf
    · rename_i he
      obtain ⟨d0, hd, e⟩ := Option.map_eq_some_iff.mp hf
      cases e
      cases (show vs = [] from rs)
      obtain ⟨a, us, ha, hn, h1, hr⟩ := w.loc he
      obtain ⟨a', ha', rfl⟩ := rx
      rw [ha] at ha'
      cases ha'
      obtain ⟨v, hv, rv⟩ := hr.get hd
      exact .inl ⟨a, us, v, rfl, rfl, h1, by rw [← hr.length]; exact hv, k.put w ha hn ⟨_, rfl, hr.init⟩ rv⟩
    · cases hf
  · split at hf
    · rename_i he
      split at hf
      · rename_i hb
        obtain ⟨j, hj, hf⟩ := Option.bind_eq_some_iff.mp hf
        obtain ⟨d0, hd, e⟩ := Option.map_eq_some_iff.mp hf
        cases e
        obtain ⟨v, rfl, rv⟩ := reps1 rs
        cases rep_int rv
        obtain ⟨a, us, ha, hn, h1, hr⟩ := w.loc he
        obtain ⟨a', ha', rfl⟩ := rx
        rw [ha] at ha'
        cases ha'
        obtain ⟨v, hv, rv⟩ := hr.get hd
        have hs := small_le hb
        have e63 : (2 : Int) ^ 63 = 9223372036854775808 := by decide
        exact .inr ⟨a, us, _, j, v, rfl, rfl, h1, by omega, by omega, by rw [← hr.length]; exact hj, hv, k.put w ha hn ⟨_, rfl, hr.erase j⟩ rv⟩
      · cases hf
    · cases hf
  · cases hf
theorem ok_extend : OkM C rExtend fExtend := by
  intro H0 as st H dx ds x vs d st' Q w rx rs hf k
  unfold fExtend at hf
  split at hf
  · split at hf
    · rename_i he
      obtain ⟨fs, hfs, hf⟩ := Option.bind_eq_some_iff.mp hf
      split at hf
      · rename_i hl
        cases hf
        obtain ⟨v, rfl, rv⟩ := reps1 rs
        obtain ⟨b, ws, rfl, hb, rw'⟩ := lookL_seq w rv hfs
        obtain ⟨a, us, ha, hn, h1, hr⟩ := w.loc he
        obtain ⟨a', ha', rfl⟩ := rx
        rw [ha] at ha'
        cases ha'
        exact ⟨a, b, us, ws, rfl, rfl, h1, hb, by rw [← hr.length, ← rw'.length]; exact hl, k.put w ha hn ⟨_, rfl, hr.append rw'⟩ rfl⟩
      · cases hf
    · cases hf
  · cases hf
end

/-! ### slices -/
def cutD (ds : List D) (lo hi : Option Int) : List D := (ds.drop (HT.sIx ds.length 0 lo)).take (HT.sIx ds.length ds.length hi - HT.sIx ds.length 0 lo)
def mNone : MO := fun _ st => some (none, st)
def mSome (a : ME) : MO := fun en st => (a en st).bind fun p => match p.1 with
  | .int i => some (some i, p.2)
  | _ => none
def fSl (mu : Bool) (d : D) (lo hi : Option Int) (st : Sto) : Option (D × Sto) := match d with
  | .tup ds => some (.tup (cutD ds lo hi), st)
  | d => (look d st).map fun ds => alloc mu (cutD ds lo hi) st
def mSl (mu : Bool) (a : ME) (l h : MO) : ME := fun en st => (a en st).bind fun p => (l en p.2).bind fun q => (h en q.2).bind fun r => fSl mu p.1 q.1 r.1 r.2
def mRev (mu : Bool) (a : ME) : ME := fun en st => (a en st).bind fun p => match p.1 with
  | .tup _ => none
  | d => (look d p.2).map fun ds => alloc mu ds.reverse p.2
section
variable {C : Cy} {X : Cx} {σ : L2.St} {H : Hp} {Q : VK} {ma mb : ME} {ml mh : MO}
theorem om_none {Q : Option Int → Hp → Prop} : oM C mNone σ H Q → tNoPart σ H Q := by
  rintro ⟨H0, as, en, st, d, st', e, w, hm, k⟩
  cases hm
  exact k H0 as H Le.refl w
theorem om_some {Q : Option Int → Hp → Prop} : oM C (mSome ma) σ H Q → tPart (eM C ma) σ H Q := by
  rintro ⟨H0, as, en, st, d, st', e, w, hm, k⟩
  unfold mSome at hm
  obtain ⟨⟨da, s1⟩, ha, hm⟩ := Option.bind_eq_some_iff.mp hm
  dsimp only at hm
  split at hm
  · cases hm
    refine ⟨H0, as, en, st, _, _, e, w, ha, fun x H1 as1 H1' l1 w1 r1 => ?_⟩
    exact ⟨_, rep_int r1, k H1 as1 H1' l1 w1⟩
  · cases hm
def rSlAll (K : PySem.W.Frag) : V → Option Int → Option Int → Hp → VK → Prop := fun x lo hi H Q => rSlA K x lo hi H Q ∨ rSlL K x lo hi H Q
theorem sl_all : SlR X (rSlAll X.K) := SlR.or sl_tupA sl_list
theorem Reps.cut {H : Hb} {as : List Addr} {ds : List D} {vs : List V} (h : Reps C H as ds vs) (lo hi : Option Int) : Reps C H as (cutD ds lo hi) (cutV vs lo hi) := by
  unfold cutD cutV
  rw [h.length]
  exact (h.drop _).take _
theorem cut_whole {vs : List V} {lo hi : Option Int} (h : HT.sIx vs.length 0 lo = 0 ∧ HT.sIx vs.length vs.length hi = vs.length) : cutV vs lo hi = vs := by
  unfold cutV
  rw [h.1, h.2, List.drop_zero, Nat.sub_zero, List.take_length]
theorem fSl_ok {mu : Bool} {H0 : Hb} {as : List Addr} {st st' : Sto} {d d' : D} {x : V} {lo hi : Option Int} (w : WR C H0 as st H) (rx : Rep C H0 as d x) (hf : fSl mu d lo hi st = some (d', st')) (k : KE C H0 as st' d' Q) : rSlAll C.K x lo hi H Q := by
  have seq : ∀ ds, (∃ a vs, x = .ref a ∧ SqL C.K H a vs ∧ Reps C H0 as ds vs) → some (alloc mu (cutD ds lo hi) st) = some (d', st') → rSlAll C.K x lo hi H Q := by
    rintro ds ⟨a, vs, rfl, hs, hr⟩ e
    exact .inr ⟨a, vs, rfl, hs, k.newA (Option.some.inj e) w (hr.cut lo hi)⟩
  cases d with
  | tup ds =>
    cases hf
    obtain ⟨a, vs, rfl, hs, hr⟩ := rx
    refine .inl ⟨a, vs, rfl, same_seqT w.ex hs, fun e => ?_, fun _ => k.newT w (hr.cut lo hi)⟩
    refine k.val w ⟨a, vs, rfl, hs, ?_⟩
    have := hr.cut lo hi
    rw [cut_whole e] at this
    exact this
  | lst ds =>
    obtain ⟨a, vs, rfl, hs, hr⟩ := rx
    exact seq ds ⟨a, vs, rfl, SqL.of (w.ex _ _ hs), hr⟩ hf
  | fro ds =>
    obtain ⟨a, vs, rfl, hs, hr⟩ := rx
    exact seq ds ⟨a, vs, rfl, w.ex.seq hs, hr⟩ hf
  | loc n =>
    obtain ⟨ds, hd, e⟩ := Option.map_eq_some_iff.mp hf
    obtain ⟨a, vs, rfl, hs, hr⟩ := lookL_seq w rx (d := .loc n) hd
    exact seq ds ⟨a, vs, rfl, SqL.of hs, hr⟩ (by rw [e])
  | _ => cases hf
theorem em_sl {mu : Bool} : eM C (mSl mu ma ml mh) σ H Q → tSl (rSlAll C.K) (eM C ma) (oM C ml) (oM C mh) σ H Q := by
  rintro ⟨H0, as, en, st, d, st', e, w, hm, k⟩
  unfold mSl at hm
  obtain ⟨⟨da, s1⟩, ha, hm⟩ := Option.bind_eq_some_iff.mp hm
  obtain ⟨⟨ol, s2⟩, hl, hm⟩ := Option.bind_eq_some_iff.mp hm
  obtain ⟨⟨oh, s3⟩, hh, hm⟩ := Option.bind_eq_some_iff.mp hm
  refine ⟨H0, as, en, st, da, s1, e, w, ha, fun x H1 as1 H1' l1 w1 r1 => ?_⟩
  refine ⟨H1, as1, en, s1, ol, s2, e.mono l1, w1, hl, fun H2 as2 H2' l2 w2 => ?_⟩
  refine ⟨H2, as2, en, s2, oh, s3, e.mono (l1.trans l2), w2, hh, fun H3 as3 H3' l3 w3 => ?_⟩
  exact fSl_ok w3 (r1.mono (l2.trans l3)) hm (k.mono ((l1.trans l2).trans l3))
theorem em_rev {mu : Bool} : eM C (mRev mu ma) σ H Q → tRevL C.K (eM C ma) σ H Q := by
  rintro ⟨H0, as, en, st, d, st', e, w, hm, k⟩
  unfold mRev at hm
  obtain ⟨⟨da, s1⟩, ha, hm⟩ := Option.bind_eq_some_iff.mp hm
  refine ⟨H0, as, en, st, da, s1, e, w, ha, fun x H1 as1 H1' l1 w1 r1 => ?_⟩
  have seq : ∀ ds, (∃ a vs, x = .ref a ∧ SqL C.K H1' a vs ∧ Reps C H1 as1 ds vs) → some (alloc mu ds.reverse s1) = some (d, st') → ∃ a xs, x = .ref a ∧ SqL C.K H1' a xs ∧ ∀ p, H1' p = none → Q (.ref p) (upd H1' p (.lst xs.reverse)) := by
    rintro ds ⟨a, vs, rfl, hs, hr⟩ e
    exact ⟨a, vs, rfl, hs, (k.mono l1).newA (Option.some.inj e) w1 hr.rev⟩
  cases da with
  | tup ds => cases hm
  | lst ds =>
    obtain ⟨a, vs, rfl, hs, hr⟩ := r1
    exact seq ds ⟨a, vs, rfl, SqL.of (w1.ex _ _ hs), hr⟩ hm
  | fro ds =>
    obtain ⟨a, vs, rfl, hs, hr⟩ := r1
    exact seq ds ⟨a, vs, rfl, w1.ex.seq hs, hr⟩ hm
  | loc n =>
    obtain ⟨ds, hd, e⟩ := Option.map_eq_some_iff.mp hm
    obtain ⟨a, vs, rfl, hs, hr⟩ := lookL_seq w1 r1 (d := .loc n) hd
    exact seq ds ⟨a, vs, rfl, SqL.of hs, hr⟩ (by rw [e])
  | _ => cases hm
end

/-! ### displays -/
def mTup (a : MA) : ME := fun en st => (a en st).bind fun p => if p.1.length ≤ sizeLine then some (.tup p.1, p.2) else none
def mLst (mu : Bool) (a : MA) : ME := fun en st => (a en st).bind fun p => if p.1.length ≤ sizeLine then some (alloc mu p.1 p.2) else none
section
variable {C : Cy} {σ : L2.St} {H : Hp} {Q : VK} {m : MA}
theorem em_tup : eM C (mTup m) σ H Q → tTup (aM C m) σ H Q := by
  rintro ⟨H0, as, en, st, d, st', e, w, hm, k⟩
  unfold mTup at hm
  obtain ⟨⟨ds, s1⟩, ha, hm⟩ := Option.bind_eq_some_iff.mp hm
  dsimp only at hm
  split at hm
  · rename_i hl
    cases hm
    refine ⟨H0, as, en, st, ds, _, e, w, ha, fun xs H1 as1 H1' l1 w1 r1 => ⟨by rw [← r1.length]; exact hl, (k.mono l1).newT w1 r1⟩⟩
  · cases hm
theorem em_lst {mu : Bool} : eM C (mLst mu m) σ H Q → tLst (aM C m) σ H Q := by
  rintro ⟨H0, as, en, st, d, st', e, w, hm, k⟩
  unfold mLst at hm
  obtain ⟨⟨ds, s1⟩, ha, hm⟩ := Option.bind_eq_some_iff.mp hm
  dsimp only at hm
  split at hm
  · rename_i hl
    refine ⟨H0, as, en, st, ds, s1, e, w, ha, fun xs H1 as1 H1' l1 w1 r1 => ⟨by rw [← r1.length]; exact hl, (k.mono l1).newA (Option.some.inj hm) w1 r1⟩⟩
  · cases hm
end

/-! ### tests -/
def truD (d : D) (st : Sto) : Option Bool := match d with
  | .non => some false
  | .bl b => some b
  | .int i => some (i != 0)
  | .str x => if x.length ≤ sizeLine then some ((x.length : Int) != 0) else none
  | .loc n => match st[n]? with
    | some (.lst ds) => some (!ds.isEmpty)
    | some (.dK kvs) => some (!kvs.isEmpty)
    | _ => none
  | d => (look d st).map fun ds => !ds.isEmpty
/-- any value's truth; a bool's -/
def mT (m : ME) : MB := fun en st => (m en st).bind fun p => (truD p.1 p.2).map (·, p.2)
def mTB (m : ME) : MB := fun en st => (m en st).bind fun p => match p.1 with
  | .bl b => some (b, p.2)
  | _ => none
def mAnd (a b : MB) : MB := fun en st => (a en st).bind fun p => if p.1 = true then b en p.2 else some (false, p.2)
def mOr (a b : MB) : MB := fun en st => (a en st).bind fun p => if p.1 = true then some (true, p.2) else b en p.2
def mNot (a : MB) : MB := fun en st => (a en st).bind fun p => some (!p.1, p.2)
def mAndV (a b : ME) : ME := fun en st => (a en st).bind fun p => match p.1 with
  | .bl true => b en p.2
  | .bl false => some (.bl false, p.2)
  | _ => none
def mOrV (a b : ME) : ME := fun en st => (a en st).bind fun p => match p.1 with
  | .bl true => some (.bl true, p.2)
  | .bl false => b en p.2
  | _ => none
def mNotV (a : ME) : ME := fun en st => (a en st).bind fun p => match p.1 with
  | .bl b => some (.bl (!b), p.2)
  | _ => none
def mIf (c : MB) (a b : ME) : ME := fun en st => (c en st).bind fun p => if p.1 = true then a en p.2 else b en p.2
section
variable {C : Cy} {σ : L2.St} {H : Hp} {Q : VK} {R : Bool → Hp → Prop} {ma mb : ME} {mc md : MB}
theorem Reps.empty {H : Hb} {as : List Addr} {ds : List D} {vs : List V} (h : Reps C H as ds vs) : vs.isEmpty = ds.isEmpty := by
  cases ds with
  | nil => cases (show vs = [] from h); rfl
  | cons d ds => obtain ⟨v, r, rfl, _⟩ := h; rfl
theorem RepKV.empty {κ : Type} {H : Hb} {as : List Addr} {ds : List (κ × D)} {vs : List (κ × V)} (h : RepKV C H as ds vs) : vs.isEmpty = ds.isEmpty := by
  cases ds with
  | nil => cases (show vs = [] from h); rfl
  | cons d ds => obtain ⟨k, d⟩ := d; obtain ⟨v, r, rfl, _⟩ := h; rfl
theorem truD_ok {H0 : Hb} {as : List Addr} {st : Sto} {d : D} {x : V} {b : Bool} (w : WR C H0 as st H) (r : Rep C H0 as d x) (h : truD d st = some b) : TruV C.K x H b := by
  cases d with
  | non => cases h; cases (show x = .non from r); rfl
  | bl b => cases h; cases rep_bl r; rfl
  | int b => cases h; cases rep_int r; rfl
  | str y =>
    cases rep_str r
    unfold truD at h
    dsimp only at h
    split at h
    · rename_i hl
      cases h
      exact ⟨hl, rfl⟩
    · cases h
  | tup ds =>
    cases h
    obtain ⟨a, vs, rfl, hs, hr⟩ := r
    exact .inr (.inl ⟨vs, same_seqT w.ex hs, by rw [hr.empty]⟩)
  | lst ds =>
    cases h
    obtain ⟨a, vs, rfl, hs, hr⟩ := r
    exact .inl ⟨vs, SqL.of (w.ex _ _ hs), by rw [hr.empty]⟩
  | fro ds =>
    cases h
    obtain ⟨a, vs, rfl, hs, hr⟩ := r
    exact .inl ⟨vs, w.ex.seq hs, by rw [hr.empty]⟩
  | loc n =>
    obtain ⟨a, ha, rfl⟩ := r
    unfold truD at h
    dsimp only at h
    split at h
    · rename_i he
      cases h
      obtain ⟨a', vs, ha', _, h1, hr⟩ := w.loc he
      rw [ha] at ha'
      cases ha'
      exact .inl ⟨vs, SqL.of h1, by rw [hr.empty]⟩
    · rename_i he
      cases h
      rcases w.own n a _ ha he with z | ⟨z, ho, h1, vs, rfl, h2⟩
      · cases z
      · exact .inr (.inr ⟨vs, h1, by rw [h2.empty]⟩)
    · cases h
  | _ => cases h
theorem bm_tru : bM C (mT ma) σ H R → eM C ma σ H (fun x H' => ∃ k, TruV C.K x H' k ∧ R k H') := by
  rintro ⟨H0, as, en, st, b, st', e, w, hm, k⟩
  unfold mT at hm
  obtain ⟨⟨da, s1⟩, ha, hm⟩ := Option.bind_eq_some_iff.mp hm
  obtain ⟨b', hb, e'⟩ := Option.map_eq_some_iff.mp hm
  cases e'
  exact ⟨H0, as, en, st, da, s1, e, w, ha, fun x H1 as1 H1' l1 w1 r1 => ⟨b, truD_ok w1 r1 hb, k H1 as1 H1' l1 w1⟩⟩
theorem bm_bool : bM C (mTB ma) σ H R → eM C ma σ H (fun x H' => ∃ k, x = .bl k ∧ R k H') := by
  rintro ⟨H0, as, en, st, b, st', e, w, hm, k⟩
  unfold mTB at hm
  obtain ⟨⟨da, s1⟩, ha, hm⟩ := Option.bind_eq_some_iff.mp hm
  dsimp only at hm
  split at hm
  · cases hm
    exact ⟨H0, as, en, st, _, _, e, w, ha, fun x H1 as1 H1' l1 w1 r1 => ⟨_, rep_bl r1, k H1 as1 H1' l1 w1⟩⟩
  · cases hm
theorem bm_and : bM C (mAnd mc md) σ H R → tAnd (bM C mc) (bM C md) σ H R := by
  rintro ⟨H0, as, en, st, b, st', e, w, hm, k⟩
  unfold mAnd at hm
  obtain ⟨⟨b1, s1⟩, ha, hm⟩ := Option.bind_eq_some_iff.mp hm
  refine ⟨H0, as, en, st, b1, s1, e, w, ha, fun H1 as1 H1' l1 w1 => ?_⟩
  dsimp only at hm ⊢
  split
  · rename_i h
    rw [if_pos h] at hm
    exact ⟨H1, as1, en, s1, b, st', e.mono l1, w1, hm, k.mono l1⟩
  · rename_i h
    rw [if_neg h] at hm
    cases hm
    exact k H1 as1 H1' l1 w1
theorem bm_or : bM C (mOr mc md) σ H R → tOr (bM C mc) (bM C md) σ H R := by
  rintro ⟨H0, as, en, st, b, st', e, w, hm, k⟩
  unfold mOr at hm
  obtain ⟨⟨b1, s1⟩, ha, hm⟩ := Option.bind_eq_some_iff.mp hm
  refine ⟨H0, as, en, st, b1, s1, e, w, ha, fun H1 as1 H1' l1 w1 => ?_⟩
  dsimp only at hm ⊢
  split
  · rename_i h
    rw [if_pos h] at hm
    cases hm
    exact k H1 as1 H1' l1 w1
  · rename_i h
    rw [if_neg h] at hm
    exact ⟨H1, as1, en, s1, b, st', e.mono l1, w1, hm, k.mono l1⟩
theorem bm_not : bM C (mNot mc) σ H R → tNot (bM C mc) σ H R := by
  rintro ⟨H0, as, en, st, b, st', e, w, hm, k⟩
  unfold mNot at hm
  obtain ⟨⟨b1, s1⟩, ha, hm⟩ := Option.bind_eq_some_iff.mp hm
  cases hm
  exact ⟨H0, as, en, st, b1, s1, e, w, ha, fun H1 as1 H1' l1 w1 => k H1 as1 H1' l1 w1⟩
theorem em_and : eM C (mAndV ma mb) σ H Q → tAndV (eM C ma) (eM C mb) σ H Q := by
  rintro ⟨H0, as, en, st, d, st', e, w, hm, k⟩
  unfold mAndV at hm
  obtain ⟨⟨b1, s1⟩, ha, hm⟩ := Option.bind_eq_some_iff.mp hm
  refine ⟨H0, as, en, st, b1, s1, e, w, ha, fun x H1 as1 H1' l1 w1 r1 => ?_⟩
  dsimp only at hm
  split at hm
  · exact ⟨true, rep_bl r1, H1, as1, en, s1, d, st', e.mono l1, w1, hm, k.mono l1⟩
  · cases hm
    exact ⟨false, rep_bl r1, k _ H1 as1 H1' l1 w1 rfl⟩
  · cases hm
theorem em_or : eM C (mOrV ma mb) σ H Q → tOrV (eM C ma) (eM C mb) σ H Q := by
  rintro ⟨H0, as, en, st, d, st', e, w, hm, k⟩
  unfold mOrV at hm
  obtain ⟨⟨b1, s1⟩, ha, hm⟩ := Option.bind_eq_some_iff.mp hm
  refine ⟨H0, as, en, st, b1, s1, e, w, ha, fun x H1 as1 H1' l1 w1 r1 => ?_⟩
  dsimp only at hm
  split at hm
  · cases hm
    exact ⟨true, rep_bl r1, k _ H1 as1 H1' l1 w1 rfl⟩
  · exact ⟨false, rep_bl r1, H1, as1, en, s1, d, st', e.mono l1, w1, hm, k.mono l1⟩
  · cases hm
theorem em_not : eM C (mNotV ma) σ H Q → tNotV (eM C ma) σ H Q := by
  rintro ⟨H0, as, en, st, d, st', e, w, hm, k⟩
  unfold mNotV at hm
  obtain ⟨⟨b1, s1⟩, ha, hm⟩ := Option.bind_eq_some_iff.mp hm
  refine ⟨H0, as, en, st, b1, s1, e, w, ha, fun x H1 as1 H1' l1 w1 r1 => ?_⟩
  dsimp only at hm
  split at hm
  · cases hm
    exact ⟨_, rep_bl r1, k _ H1 as1 H1' l1 w1 rfl⟩
  · cases hm
theorem em_if : eM C (mIf mc ma mb) σ H Q → tIf (bM C mc) (eM C ma) (eM C mb) σ H Q := by
  rintro ⟨H0, as, en, st, d, st', e, w, hm, k⟩
  unfold mIf at hm
  obtain ⟨⟨b1, s1⟩, ha, hm⟩ := Option.bind_eq_some_iff.mp hm
  refine ⟨H0, as, en, st, b1, s1, e, w, ha, fun H1 as1 H1' l1 w1 => ?_⟩
  dsimp only at hm ⊢
  split
  · rename_i h
    rw [if_pos h] at hm
    exact ⟨H1, as1, en, s1, d, st', e.mono l1, w1, hm, k.mono l1⟩
  · rename_i h
    rw [if_neg h] at hm
    exact ⟨H1, as1, en, s1, d, st', e.mono l1, w1, hm, k.mono l1⟩
end
end My


namespace My
open PySem PySem.Spec PyProof.Rows L2

/-! ### targets -/
inductive Tg where
  | name (i : Nat) | tup (ts : List Tg)
mutual
def Tg.slots : Tg → List Nat
  | .name i => [i]
  | .tup ts => Tg.slotss ts
def Tg.slotss : List Tg → List Nat
  | [] => []
  | t :: ts => t.slots ++ Tg.slotss ts
end
mutual
def setTg : Tg → D → En → Option En
  | .name i, d, en => some (en.set i (some d))
  | .tup ts, .tup ds, en => setTgs ts ds en
  | .tup _, _, _ => none
def setTgs : List Tg → List D → En → Option En
  | [], [], en => some en
  | t :: ts, d :: ds, en => (setTg t d en).bind fun en' => setTgs ts ds en'
  | _, _, _ => none
end
def SlotEq (L : List Nat) (σ σ' : L2.St) : Prop := σ'.length = σ.length ∧ ∀ (i : Nat), i ∉ L → σ'[i]? = σ[i]?
theorem SlotEq.refl {L : List Nat} {σ : L2.St} : SlotEq L σ σ := ⟨rfl, fun _ _ => rfl⟩
theorem SlotEq.trans {L L' L3 : List Nat} {σ σ1 σ2 : L2.St} (a : SlotEq L σ σ1) (b : SlotEq L' σ1 σ2) (h : ∀ i, i ∈ L ∨ i ∈ L' → i ∈ L3) : SlotEq L3 σ σ2 :=
  ⟨b.1.trans a.1, fun i hi => (b.2 i fun z => hi (h i (.inr z))).trans (a.2 i fun z => hi (h i (.inl z)))⟩
def tgM (C : Cy) (T : Tg) : TG := fun v σ H Q => ∃ H0 as en st d en', EnR C H0 as en σ ∧ WR C H0 as st H ∧ Rep C H0 as d v ∧ setTg T d en = some en' ∧ ∀ σ', SlotEq T.slots σ σ' → EnR C H0 as en' σ' → Q σ' H
def tgsM (C : Cy) (T : List Tg) : TGs := fun vs σ H Q => ∃ H0 as en st ds en', EnR C H0 as en σ ∧ WR C H0 as st H ∧ Reps C H0 as ds vs ∧ setTgs T ds en = some en' ∧ ∀ σ', SlotEq (Tg.slotss T) σ σ' → EnR C H0 as en' σ' → Q σ' H
abbrev MG := D → En → Sto → Option (En × Sto)
def gM (C : Cy) (g : MG) : TG := fun v σ H Q => ∃ H0 as en st d en' st', EnR C H0 as en σ ∧ WR C H0 as st H ∧ Rep C H0 as d v ∧ g d en st = some (en', st') ∧ KS C H0 as st' en' Q
abbrev MGs := List D → En → Sto → Option (En × Sto)
def gsM (C : Cy) (g : MGs) : TGs := fun vs σ H Q => ∃ H0 as en st ds en' st', EnR C H0 as en σ ∧ WR C H0 as st H ∧ Reps C H0 as ds vs ∧ g ds en st = some (en', st') ∧ KS C H0 as st' en' Q
def mgT (T : Tg) : MG := fun d en st => (setTg T d en).map (·, st)
def mgName (i : Nat) : MG := fun d en st => some (en.set i (some d), st)
def mgSub (a b : ME) (f : D → D → D → Sto → Option Sto) : MG := fun d en st => (a en st).bind fun p => (b en p.2).bind fun q => (f p.1 q.1 d q.2).map fun s => (en, s)
def mgNil : MGs := fun ds en st => match ds with
  | [] => some (en, st)
  | _ => none
def mgCons (g : MG) (r : MGs) : MGs := fun ds en st => match ds with
  | d :: ds => (g d en st).bind fun p => r ds p.1 p.2
  | [] => none
def mgTup (n : Nat) (g : MGs) : MG := fun d en st => match d with
  | .tup ds => if ds.length = n then g ds en st else none
  | _ => none
section
variable {X : Cx} {e : Expr} {es : List Expr}
theorem PG.imp {t t' : TG} (h : PG X e t) (i : ∀ v σ H Q, t' v σ H Q → t v σ H Q) : PG X e t' := ⟨fun pins s σ H v u Q I r w => h.run pins s σ H v u Q I r (i v σ H Q w)⟩
theorem PGs.imp {t t' : TGs} (h : PGs X es t) (i : ∀ v σ H Q, t' v σ H Q → t v σ H Q) : PGs X es t' := ⟨fun pins s σ H v u Q I r w => h.run pins s σ H v u Q I r (i v σ H Q w)⟩
end
section
variable {C : Cy} {v : V} {vs : List V} {σ : L2.St} {H : Hp} {Q : L2.St → Hp → Prop}
theorem tg_name {i : Nat} : tgM C (.name i) v σ H Q → gName i v σ H Q := by
  rintro ⟨H0, as, en, st, d, en', e, w, r, hs, k⟩
  cases hs
  exact k _ ⟨List.length_set, fun j hj => List.getElem?_set_ne (fun z => hj (by simp [Tg.slots, z]))⟩ (e.set r i)
theorem tgs_nil : tgsM C [] vs σ H Q → gNil vs σ H Q := by
  rintro ⟨H0, as, en, st, ds, en', e, w, r, hs, k⟩
  cases ds with
  | nil =>
    cases hs
    exact ⟨r, k σ .refl e⟩
  | cons _ _ => cases hs
theorem tgs_cons {t : Tg} {ts : List Tg} : tgsM C (t :: ts) vs σ H Q → gCons (tgM C t) (tgsM C ts) vs σ H Q := by
  rintro ⟨H0, as, en, st, ds, en', e, w, r, hs, k⟩
  cases ds with
  | nil => cases hs
  | cons d ds =>
    obtain ⟨en1, h1, h2⟩ := Option.bind_eq_some_iff.mp hs
    obtain ⟨x, xs, rfl, r1, r2⟩ := r
    refine ⟨x, xs, rfl, H0, as, en, st, d, en1, e, w, r1, h1, fun σ1 s1 e1 => ?_⟩
    refine ⟨H0, as, en1, st, ds, en', e1, w, r2, h2, fun σ2 s2 e2 => ?_⟩
    exact k σ2 (SlotEq.trans (L3 := Tg.slotss (t :: ts)) s1 s2 fun i hi => by simpa [Tg.slotss] using hi) e2
theorem tg_tup {ts : List Tg} : tgM C (.tup ts) v σ H Q → gTup C.K ts.length (tgsM C ts) v σ H Q := by
  rintro ⟨H0, as, en, st, d, en', e, w, r, hs, k⟩
  cases d with
  | tup ds =>
    obtain ⟨a, vs, rfl, hq, hr⟩ := r
    have hl : ∀ (ts : List Tg) (ds : List D) (en en' : En), setTgs ts ds en = some en' → ds.length = ts.length := by
      intro ts
      induction ts with
      | nil => intro ds en en' h; cases ds with
        | nil => rfl
        | cons _ _ => cases h
      | cons t ts ih => intro ds en en' h; cases ds with
        | nil => cases h
        | cons d ds =>
          obtain ⟨en1, _, h2⟩ := Option.bind_eq_some_iff.mp h
          simp [ih ds en1 en' h2]
    exact ⟨a, vs, rfl, same_seqT w.ex hq, by rw [← hr.length]; exact hl ts ds en en' hs, H0, as, en, st, ds, en', e, w, hr, hs, k⟩
  | _ => cases hs
theorem gm_T {T : Tg} : gM C (mgT T) v σ H Q → tgM C T v σ H Q := by
  rintro ⟨H0, as, en, st, d, en', st', e, w, r, hs, k⟩
  obtain ⟨en1, h1, e1⟩ := Option.map_eq_some_iff.mp hs
  cases e1
  exact ⟨H0, as, en, st, d, _, e, w, r, h1, fun σ' s' e' => k σ' H0 as H Le.refl w e'⟩
theorem gm_name {i : Nat} : gM C (mgName i) v σ H Q → gName i v σ H Q := by
  rintro ⟨H0, as, en, st, d, en', st', e, w, r, hs, k⟩
  cases hs
  exact k _ H0 as H Le.refl w (e.set r i)
theorem gs_nil : gsM C mgNil vs σ H Q → gNil vs σ H Q := by
  rintro ⟨H0, as, en, st, ds, en', st', e, w, r, hs, k⟩
  cases ds with
  | nil =>
    cases hs
    exact ⟨r, k σ H0 as H Le.refl w e⟩
  | cons _ _ => cases hs
theorem gs_cons {t : MG} {ts : MGs} : gsM C (mgCons t ts) vs σ H Q → gCons (gM C t) (gsM C ts) vs σ H Q := by
  rintro ⟨H0, as, en, st, ds, en', st', e, w, r, hs, k⟩
  cases ds with
  | nil => cases hs
  | cons d ds =>
    obtain ⟨⟨en1, s1⟩, h1, h2⟩ := Option.bind_eq_some_iff.mp hs
    obtain ⟨x, xs, rfl, r1, r2⟩ := r
    refine ⟨x, xs, rfl, H0, as, en, st, d, en1, s1, e, w, r1, h1, fun σ1 H1 as1 H1' l1 w1 e1 => ?_⟩
    exact ⟨H1, as1, en1, s1, ds, en', st', e1, w1, r2.mono l1, h2, k.mono l1⟩
theorem gm_tup {n : Nat} {ts : MGs} : gM C (mgTup n ts) v σ H Q → gTup C.K n (gsM C ts) v σ H Q := by
  rintro ⟨H0, as, en, st, d, en', st', e, w, r, hs, k⟩
  cases d with
  | tup ds =>
    obtain ⟨a, vs, rfl, hq, hr⟩ := r
    unfold mgTup at hs
    dsimp only at hs
    split at hs
    · rename_i hl
      exact ⟨a, vs, rfl, same_seqT w.ex hq, by rw [← hr.length]; exact hl, H0, as, en, st, ds, en', st', e, w, hr, hs, k⟩
    · cases hs
  | _ => cases hs
def OkS (C : Cy) (t : TSet) (f : D → D → D → Sto → Option Sto) : Prop := ∀ H0 as st H a b c x y z st' Q, WR C H0 as st H → Rep C H0 as a x → Rep C H0 as b y → Rep C H0 as c z → f a b c st = some st' → (∀ H0' as' H', Le H0 as H0' as' → WR C H0' as' st' H' → Q H') → t x y z H Q
theorem gm_sub {a b : ME} {t : TSet} {f : D → D → D → Sto → Option Sto} (ok : OkS C t f) : gM C (mgSub a b f) v σ H Q → gSub (eM C a) (eM C b) t v σ H Q := by
  rintro ⟨H0, as, en, st, d, en', st', e, w, r, hs, k⟩
  unfold mgSub at hs
  obtain ⟨⟨da, s1⟩, ha, hs⟩ := Option.bind_eq_some_iff.mp hs
  obtain ⟨⟨db, s2⟩, hb, hs⟩ := Option.bind_eq_some_iff.mp hs
  obtain ⟨s3, h3, e3⟩ := Option.map_eq_some_iff.mp hs
  cases e3
  refine ⟨H0, as, en, st, da, s1, e, w, ha, fun x H1 as1 H1' l1 w1 r1 => ?_⟩
  refine ⟨H1, as1, en, s1, db, s2, e.mono l1, w1, hb, fun y H2 as2 H2' l2 w2 r2 => ?_⟩
  exact ok H2 as2 s2 H2' da db d x y v _ _ w2 (r1.mono l2) r2 (r.mono (l1.trans l2)) h3 fun H3 as3 H3' l3 w3 => k σ H3 as3 H3' ((l1.trans l2).trans l3) w3 (e.mono ((l1.trans l2).trans l3))
def fSetL (a b c : D) (st : Sto) : Option Sto := match a, b with
  | .loc n, .int k => match st[n]? with
    | some (.lst ds) => (ixN ds.length k).map fun j => st.set n (.lst (ds.set j c))
    | _ => none
  | _, _ => none
theorem ok_setL : OkS C rSetL fSetL := by
  intro H0 as st H a b c x y z st' Q w rx ry rz hf k
  unfold fSetL at hf
  split at hf
  · split at hf
    · rename_i he
      obtain ⟨j, hj, e⟩ := Option.map_eq_some_iff.mp hf
      cases e
      cases rep_int ry
      obtain ⟨a', us, ha, hn, h1, hr⟩ := w.loc he
      obtain ⟨a'', ha', rfl⟩ := rx
      rw [ha] at ha'
      cases ha'
      exact ⟨a', us, _, j, rfl, rfl, h1, by rw [← hr.length]; exact hj, k H0 as _ Le.refl (w.put ha hn ⟨_, rfl, Reps.set rz j hr⟩)⟩
    · cases hf
  · cases hf
end

/-! ### statements -/
def mNext : MS := fun en st => some (.nx en, st)
def mBreak : MS := fun en st => some (.bk en, st)
def mCont : MS := fun en st => some (.ct en, st)
def mNever : MS := fun _ _ => none
def mSeq (a b : MS) : MS := fun en st => (a en st).bind fun p => match p.1 with
  | .nx en' => b en' p.2
  | o => some (o, p.2)
def mRet (m : ME) : MS := fun en st => (m en st).bind fun p => some (.rt p.1, p.2)
def mRetN : MS := fun _ st => some (.rt .non, st)
def mDrop (m : ME) : MS := fun en st => (m en st).bind fun p => some (.nx en, p.2)
def mIfS (c : MB) (a b : MS) : MS := fun en st => (c en st).bind fun p => if p.1 = true then a en p.2 else b en p.2
def mAsg (m : ME) (g : MG) : MS := fun en st => (m en st).bind fun p => (g p.1 en p.2).bind fun q => some (.nx q.1, q.2)
def mAug (i : Nat) (m : ME) (f : D → D → Sto → Option (D × Sto)) : MS := fun en st => match en[i]? with
  | some (some x) => (m en st).bind fun p => (f x p.1 p.2).bind fun q => some (.nx (en.set i (some q.1)), q.2)
  | _ => none
def mPar (i j : Nat) (a : MA) : MS := fun en st => (a en st).bind fun p => match p.1 with
  | [x, y] => some (.nx ((en.set i (some x)).set j (some y)), p.2)
  | _ => none
def mWhN (c : MB) (b : MS) : Nat → MS
  | 0, _, _ => none
  | n + 1, en, st => (c en st).bind fun p => if p.1 = true then (b en p.2).bind fun q => match q.1 with
      | .nx e => mWhN c b n e q.2
      | .ct e => mWhN c b n e q.2
      | .bk e => some (.nx e, q.2)
      | .rt d => some (.rt d, q.2)
    else some (.nx en, p.2)
noncomputable def mWh (c : MB) (b : MS) : MS := fun en st => open Classical in if h : ∃ p : Nat × (Out × Sto), mWhN c b p.1 en st = some p.2 then some (Classical.choose h).2 else none
theorem mWhN_mono {c : MB} {b : MS} : ∀ {n m : Nat} {en : En} {st : Sto} {r : Out × Sto}, mWhN c b n en st = some r → n ≤ m → mWhN c b m en st = some r
  | 0, _, _, _, _, h, _ => by cases h
  | n + 1, 0, _, _, _, _, hl => by omega
  | n + 1, m + 1, en, st, r, h, hl => by
    unfold mWhN at h ⊢
    obtain ⟨⟨b1, s1⟩, h1, h⟩ := Option.bind_eq_some_iff.mp h
    refine Option.bind_eq_some_iff.mpr ⟨_, h1, ?_⟩
    dsimp only at h ⊢
    split
    · rename_i hb
      rw [if_pos hb] at h
      obtain ⟨⟨o, s2⟩, h2, h⟩ := Option.bind_eq_some_iff.mp h
      refine Option.bind_eq_some_iff.mpr ⟨_, h2, ?_⟩
      cases o with
      | nx e => exact mWhN_mono h (by omega)
      | ct e => exact mWhN_mono h (by omega)
      | bk e => exact h
      | rt d => exact h
    · rename_i hb
      rw [if_neg hb] at h
      exact h
theorem mWh_of {c : MB} {b : MS} {n : Nat} {en : En} {st : Sto} {r : Out × Sto} (h : mWhN c b n en st = some r) : mWh c b en st = some r := by
  unfold mWh
  have hx : ∃ p : Nat × (Out × Sto), mWhN c b p.1 en st = some p.2 := ⟨(n, r), h⟩
  rw [dif_pos hx]
  have h2 := Classical.choose_spec hx
  have a := mWhN_mono h (Nat.le_max_left n (Classical.choose hx).1)
  have b' := mWhN_mono h2 (Nat.le_max_right n (Classical.choose hx).1)
  rw [b'] at a
  exact a
theorem mWh_to {c : MB} {b : MS} {en : En} {st : Sto} {r : Out × Sto} (h : mWh c b en st = some r) : ∃ n, mWhN c b n en st = some r := by
  unfold mWh at h
  split at h
  · rename_i hx
    have h2 := Classical.choose_spec hx
    have e := Option.some.inj h
    rw [e] at h2
    exact ⟨_, h2⟩
  · cases h
section
variable {C : Cy} {N : Ends} {σ : L2.St} {H : Hp} {ma mb : MS} {m : ME} {mc : MB}
theorem sm_next : sM C mNext N σ H → tNext N σ H := by
  rintro ⟨H0, as, en, st, o, st', e, w, hm, k⟩
  cases hm
  exact k σ H0 as H Le.refl w e
theorem sm_break : sM C mBreak N σ H → tBreak N σ H := by
  rintro ⟨H0, as, en, st, o, st', e, w, hm, k⟩
  cases hm
  exact k σ H0 as H Le.refl w e
theorem sm_cont : sM C mCont N σ H → tCont N σ H := by
  rintro ⟨H0, as, en, st, o, st', e, w, hm, k⟩
  cases hm
  exact k σ H0 as H Le.refl w e
theorem sm_never : sM C mNever N σ H → tNever N σ H := by
  rintro ⟨H0, as, en, st, o, st', e, w, hm, k⟩
  cases hm
theorem sm_seq : sM C (mSeq ma mb) N σ H → tSeq (sM C ma) (sM C mb) N σ H := by
  rintro ⟨H0, as, en, st, o, st', e, w, hm, k⟩
  unfold mSeq at hm
  obtain ⟨⟨o1, s1⟩, ha, hm⟩ := Option.bind_eq_some_iff.mp hm
  refine ⟨H0, as, en, st, o1, s1, e, w, ha, ?_⟩
  cases o1 with
  | nx en1 =>
    intro σ1 H1 as1 H1' l1 w1 e1
    exact ⟨H1, as1, en1, s1, o, st', e1, w1, hm, k.mono l1⟩
  | rt d => cases hm; exact k
  | bk d => cases hm; exact k
  | ct d => cases hm; exact k
theorem sm_ret : sM C (mRet m) N σ H → tRet (eM C m) N σ H := by
  rintro ⟨H0, as, en, st, o, st', e, w, hm, k⟩
  unfold mRet at hm
  obtain ⟨⟨d, s1⟩, ha, hm⟩ := Option.bind_eq_some_iff.mp hm
  cases hm
  exact ⟨H0, as, en, st, d, s1, e, w, ha, k⟩
theorem sm_retN : sM C mRetN N σ H → tRetN N σ H := by
  rintro ⟨H0, as, en, st, o, st', e, w, hm, k⟩
  cases hm
  exact k .non H0 as H Le.refl w rfl
theorem sm_drop : sM C (mDrop m) N σ H → tDrop (eM C m) N σ H := by
  rintro ⟨H0, as, en, st, o, st', e, w, hm, k⟩
  unfold mDrop at hm
  obtain ⟨⟨d, s1⟩, ha, hm⟩ := Option.bind_eq_some_iff.mp hm
  cases hm
  exact ⟨H0, as, en, st, d, s1, e, w, ha, fun v H1 as1 H1' l1 w1 _ => k σ H1 as1 H1' l1 w1 (e.mono l1)⟩
theorem sm_if : sM C (mIfS mc ma mb) N σ H → tIfS (bM C mc) (sM C ma) (sM C mb) N σ H := by
  rintro ⟨H0, as, en, st, o, st', e, w, hm, k⟩
  unfold mIfS at hm
  obtain ⟨⟨b1, s1⟩, ha, hm⟩ := Option.bind_eq_some_iff.mp hm
  refine ⟨H0, as, en, st, b1, s1, e, w, ha, fun H1 as1 H1' l1 w1 => ?_⟩
  dsimp only at hm ⊢
  split
  · rename_i h
    rw [if_pos h] at hm
    exact ⟨H1, as1, en, s1, o, st', e.mono l1, w1, hm, k.mono l1⟩
  · rename_i h
    rw [if_neg h] at hm
    exact ⟨H1, as1, en, s1, o, st', e.mono l1, w1, hm, k.mono l1⟩
theorem sm_asg {g : MG} : sM C (mAsg m g) N σ H → tAsg (eM C m) (gM C g) N σ H := by
  rintro ⟨H0, as, en, st, o, st', e, w, hm, k⟩
  unfold mAsg at hm
  obtain ⟨⟨d, s1⟩, ha, hm⟩ := Option.bind_eq_some_iff.mp hm
  obtain ⟨⟨en2, s2⟩, hb, hm⟩ := Option.bind_eq_some_iff.mp hm
  cases hm
  refine ⟨H0, as, en, st, d, s1, e, w, ha, fun v H1 as1 H1' l1 w1 r1 => ?_⟩
  exact ⟨H1, as1, en, s1, d, en2, s2, e.mono l1, w1, r1, hb, KS.mono l1 k⟩
theorem sm_aug {i : Nat} {f : D → D → Sto → Option (D × Sto)} {t : TIp} (ok : Ok2 C t f) : sM C (mAug i m f) N σ H → tAug i (eM C m) t N σ H := by
  rintro ⟨H0, as, en, st, o, st', e, w, hm, k⟩
  unfold mAug at hm
  split at hm
  · rename_i x hx
    obtain ⟨⟨d, s1⟩, ha, hm⟩ := Option.bind_eq_some_iff.mp hm
    obtain ⟨⟨d2, s2⟩, hb, hm⟩ := Option.bind_eq_some_iff.mp hm
    cases hm
    obtain ⟨v, hv, rv⟩ := e.at_ i x hx
    refine ⟨v, hv, H0, as, en, st, d, s1, e, w, ha, fun y H1 as1 H1' l1 w1 r1 => ?_⟩
    exact ok H1 as1 s1 H1' x d v y d2 _ _ w1 (rv.mono l1) r1 hb fun z H2 as2 H2' l2 w2 r2 => k _ H2 as2 H2' (l1.trans l2) w2 ((e.mono (l1.trans l2)).set r2 i)
  · cases hm
theorem sm_par {i j : Nat} {a : MA} : sM C (mPar i j a) N σ H → tPar i j (aM C a) N σ H := by
  rintro ⟨H0, as, en, st, o, st', e, w, hm, k⟩
  unfold mPar at hm
  obtain ⟨⟨ds, s1⟩, ha, hm⟩ := Option.bind_eq_some_iff.mp hm
  dsimp only at hm
  split at hm
  · cases hm
    refine ⟨H0, as, en, st, _, _, e, w, ha, fun vs H1 as1 H1' l1 w1 r1 => ?_⟩
    obtain ⟨x, y, rfl, rx, ry⟩ := reps2 r1
    exact ⟨x, y, rfl, k _ H1 as1 H1' l1 w1 (((e.mono l1).set rx i).set ry j)⟩
  · cases hm
theorem sm_while : sM C (mWh mc ma) N σ H → tWhile (bM C mc) (sM C ma) N σ H := by
  rintro ⟨H0, as, en, st, o, st', e, w, hm, k⟩
  obtain ⟨n, hn⟩ := mWh_to hm
  refine ⟨fun m σ H => ∃ H1 as1 en1 st1, Le H0 as H1 as1 ∧ EnR C H1 as1 en1 σ ∧ WR C H1 as1 st1 H ∧ mWhN mc ma m en1 st1 = some (o, st'), ⟨n, H0, as, en, st, Le.refl, e, w, hn⟩, ?_⟩
  rintro m σ1 Hx ⟨H1, as1, en1, st1, l1, e1, w1, h1⟩
  cases m with
  | zero => cases h1
  | succ m =>
    unfold mWhN at h1
    obtain ⟨⟨b1, s1⟩, hb, h1⟩ := Option.bind_eq_some_iff.mp h1
    refine ⟨H1, as1, en1, st1, b1, s1, e1, w1, hb, fun H2 as2 H2' l2 w2 => ?_⟩
    dsimp only at h1 ⊢
    split
    · rename_i h
      rw [if_pos h] at h1
      obtain ⟨⟨o2, s2⟩, ho, h1⟩ := Option.bind_eq_some_iff.mp h1
      refine ⟨fun σ' H' => ∃ H3 as3 en3 st3, Le H0 as H3 as3 ∧ EnR C H3 as3 en3 σ' ∧ WR C H3 as3 st3 H' ∧ mWhN mc ma m en3 st3 = some (o, st'), fun σ' H' z => ⟨m, Nat.lt_succ_self m, z⟩, ?_⟩
      refine ⟨H2, as2, en1, s1, o2, s2, e1.mono l2, w2, ho, ?_⟩
      cases o2 with
      | nx e' => exact fun σ3 H3 as3 H3' l3 w3 e3 => ⟨H3, as3, e', s2, (l1.trans l2).trans l3, e3, w3, h1⟩
      | ct e' => exact fun σ3 H3 as3 H3' l3 w3 e3 => ⟨H3, as3, e', s2, (l1.trans l2).trans l3, e3, w3, h1⟩
      | bk e' =>
        cases h1
        exact fun σ3 H3 as3 H3' l3 w3 e3 => k σ3 H3 as3 H3' ((l1.trans l2).trans l3) w3 e3
      | rt d =>
        cases h1
        exact fun v H3 as3 H3' l3 w3 r3 => k v H3 as3 H3' ((l1.trans l2).trans l3) w3 r3
    · rename_i h
      rw [if_neg h] at h1
      cases h1
      exact k σ1 H2 as2 H2' (l1.trans l2) w2 (e1.mono l2)
end
end My


namespace My
open PySem PySem.Spec PyProof.Rows L2

/-! ### what is walked -/
structure Src where
  ds : List D
  chk : Option Nat
def Src.ok (s : Src) (st : Sto) : Prop := match s.chk with
  | none => True
  | some n => st[n]? = some (.lst s.ds)
def ItOk (C : Cy) (J : It) (s : Src) (H0 : Hb) (as : List Addr) : Prop := ∀ H1 as1 st H (i : Nat), Le H0 as H1 as1 → WR C H1 as1 st H → s.ok st →
  (∀ d, s.ds[i]? = some d → J.go i H ∧ ∀ x H', J.yld i H x H' → ∃ H2 as2, Le H1 as1 H2 as2 ∧ WR C H2 as2 st H' ∧ Rep C H2 as2 d x) ∧ (s.ds.length ≤ i → J.stop i H)
theorem Le.gset {H H1 : Hb} {as as1 : List Addr} (l : Le H as H1 as1) (g : List (Addr × HO)) : Le ⟨H.h, g⟩ as ⟨H1.h, g⟩ as1 := ⟨l.same, rfl, l.pre⟩
abbrev MI := En → Sto → Option (Src × Sto)
def iM (C : Cy) (m : MI) : TI := fun σ H R => ∃ H0 as en st s st', EnR C H0 as en σ ∧ WR C H0 as st H ∧ m en st = some (s, st') ∧ ∀ J H0' as' H', Le H0 as H0' as' → WR C H0' as' st' H' → (∀ g, ItOk C J s ⟨H0'.h, g⟩ as') → R J H'
def srcOf (d : D) (st : Sto) : Option Src := match d with
  | .tup ds => some ⟨ds, none⟩
  | .lst ds => some ⟨ds, none⟩
  | .fro ds => some ⟨ds, none⟩
  | .loc n => match st[n]? with
    | some (.lst ds) => some ⟨ds, some n⟩
    | _ => none
  | _ => none
def miSeq (m : ME) : MI := fun en st => (m en st).bind fun p => (srcOf p.1 p.2).map (·, p.2)
def rngD (lo : Int) (n : Nat) : List D := (List.range n).map fun (i : Nat) => D.int (lo + (i : Int))
def miRng1 (m : MA) : MI := fun en st => (m en st).bind fun p => match p.1 with
  | [.int j] => if small j = true then some (⟨rngD 0 j.toNat, none⟩, p.2) else none
  | _ => none
def miRng2 (m : MA) : MI := fun en st => (m en st).bind fun p => match p.1 with
  | [.int i, .int j] => if small i = true ∧ small j = true then some (⟨rngD i (j - i).toNat, none⟩, p.2) else none
  | _ => none
section
variable {X : Cx} {tg : Expr}
def iSeq (K : PySem.W.Frag) (tl : TE) : TI := fun σ H R => tl σ H fun x H1 => ∃ a, x = .ref a ∧ (((∃ xs, SqL K H1 a xs) ∧ R (Itl K a) H1) ∨ ((∃ xs, SqT K H1 a xs) ∧ R (Itt K a) H1))
theorem pi_seq {l : Expr} {tl : TE} (hl : PE X l tl) : PI X tg l (iSeq X.K tl) := by
  refine ⟨fun pins s σ H R I h => ?_⟩
  refine thn (hl.run pins s σ H _ I h) fun v s1 ⟨x, H1, I1, r1, q1⟩ => ?_
  obtain ⟨a, e, q1⟩ := q1
  subst e
  cases r1
  rcases q1 with ⟨⟨xs, hq⟩, q⟩ | ⟨⟨xs, hq⟩, q⟩
  · obtain ⟨its, rv, p, hz⟩ := I1.list hq
    refine wpAny_pyIter_list p.isList ?_
    refine ⟨s1.heap.objs.size, [s1.heap.objs.size], _, _, H1, rfl, I1.kept (t' := s1.toks) fun b o e => Heap.get?_push_of_some _ e, turn_list a _, ⟨_, Heap.get?_push_size _ rfl, rfl, rfl⟩, fun b hb => ?_, q⟩
    have e : b = s1.heap.objs.size := by simpa using hb
    subst e
    exact I1.fpOk (Nat.le_refl _) (I1.hok.fresh (Nat.le_refl _))
  · obtain ⟨its, rv, p, hz⟩ := I1.tuple hq
    refine wpAny_pyIter_tuple (show s1.heap.IsTuple a its.toArray from p) ?_
    refine ⟨s1.heap.objs.size, [s1.heap.objs.size], _, _, H1, rfl, I1.kept (t' := s1.toks) fun b o e => Heap.get?_push_of_some _ e, turn_tuple a _, ⟨_, Heap.get?_push_size _ rfl, rfl, rfl⟩, fun b hb => ?_, q⟩
    have e : b = s1.heap.objs.size := by simpa using hb
    subst e
    exact I1.fpOk (Nat.le_refl _) (I1.hok.fresh (Nat.le_refl _))
end
section
variable {C : Cy} {σ : L2.St} {H : Hp} {R : It → Hp → Prop} {m : ME} {ma : MA}
theorem itOk_list {a : Addr} {ds : List D} {vs : List V} {H0 : Hb} {as : List Addr} {c : Option Nat} (hs : ∀ H1 as1 st H, Le H0 as H1 as1 → WR C H1 as1 st H → (⟨ds, c⟩ : Src).ok st → ∃ vs, SqL C.K H a vs ∧ Reps C H1 as1 ds vs)  : ItOk C (Itl C.K a) ⟨ds, c⟩ H0 as := by
  intro H1 as1 st H i l w hk
  obtain ⟨vs, q, r⟩ := hs H1 as1 st H l w hk
  refine ⟨fun d hd => ?_, fun hi => ⟨vs, q, by rw [← r.length]; exact hi⟩⟩
  obtain ⟨v, hv, rv⟩ := r.get hd
  refine ⟨⟨vs, v, q, hv⟩, fun x H' y => ?_⟩
  obtain ⟨rfl, hx⟩ := y
  have e := hx vs q
  rw [hv] at e
  cases e
  exact ⟨H1, as1, Le.refl, w, rv⟩
theorem itOk_tup {a : Addr} {ds : List D} {vs : List V} {H0 : Hb} {as : List Addr} (q0 : SqT C.K H0.h a vs) (r0 : Reps C H0 as ds vs) : ItOk C (Itt C.K a) ⟨ds, none⟩ H0 as := by
  intro H1 as1 st H i l w _
  have q := same_seqT w.ex (same_seqT l.same q0)
  have r := r0.mono l
  refine ⟨fun d hd => ?_, fun hi => ⟨vs, q, by rw [← r.length]; exact hi⟩⟩
  obtain ⟨v, hv, rv⟩ := r.get hd
  refine ⟨⟨vs, v, q, hv⟩, fun x H' y => ?_⟩
  obtain ⟨rfl, hx⟩ := y
  have e := hx vs q
  rw [hv] at e
  cases e
  exact ⟨H1, as1, Le.refl, w, rv⟩
theorem itOk_rng {lo : Int} {n : Nat} {H0 : Hb} {as : List Addr} : ItOk C (Itr lo n) ⟨rngD lo n, none⟩ H0 as := by
  intro H1 as1 st H i l w _
  refine ⟨fun d hd => ?_, fun hi => ?_⟩
  · unfold rngD at hd
    rw [List.getElem?_map] at hd
    obtain ⟨j, hj, rfl⟩ := Option.map_eq_some_iff.mp hd
    obtain ⟨h1, h2⟩ := List.getElem?_eq_some_iff.mp hj
    rw [List.getElem_range] at h2
    subst h2
    rw [List.length_range] at h1
    refine ⟨h1, fun x H' y => ?_⟩
    obtain ⟨rfl, rfl⟩ := y
    exact ⟨H1, as1, Le.refl, w, rfl⟩
  · unfold rngD at hi
    have hi : n ≤ i := by simpa using hi
    exact hi
mutual
theorem Rep.gset {H0 : Hb} {as : List Addr} (g : List (Addr × HO)) : ∀ {d : D} {v : V}, Rep C H0 as d v → Rep C ⟨H0.h, g⟩ as d v
  | .non, _, h => h
  | .bl _, _, h => h
  | .int _, _, h => h
  | .str _, _, h => h
  | .ty _, _, h => h
  | .adr _, _, h => h
  | .tup ds, _, h => by
    obtain ⟨a, vs, e, hs, hr⟩ := h
    exact ⟨a, vs, e, hs, Reps.gset g hr⟩
  | .lst ds, _, h => by
    obtain ⟨a, vs, e, hs, hr⟩ := h
    exact ⟨a, vs, e, hs, Reps.gset g hr⟩
  | .fro ds, _, h => by
    obtain ⟨a, vs, e, hs, hr⟩ := h
    exact ⟨a, vs, e, hs, Reps.gset g hr⟩
  | .loc n, _, h => h
  | .fdk _ _ _, _, h => by
    obtain ⟨a, ob, vs, ha, e, hs, hl, hr⟩ := h
    exact ⟨a, ob, vs, ha, e, hs, hl, Reps.gset g hr⟩
theorem Reps.gset {H0 : Hb} {as : List Addr} (g : List (Addr × HO)) : ∀ {ds : List D} {vs : List V}, Reps C H0 as ds vs → Reps C ⟨H0.h, g⟩ as ds vs
  | [], _, h => h
  | d :: ds, _, h => by
    obtain ⟨v, r, e, h1, h2⟩ := h
    exact ⟨v, r, e, Rep.gset g h1, Reps.gset g h2⟩
end
theorem RepKV.gset {κ : Type} {H0 : Hb} {as : List Addr} (g : List (Addr × HO)) : ∀ {ds : List (κ × D)} {vs : List (κ × V)}, RepKV C H0 as ds vs → RepKV C ⟨H0.h, g⟩ as ds vs
  | [], _, h => h
  | (k, d) :: ds, _, h => by
    obtain ⟨v, r, e, h1, h2⟩ := h
    exact ⟨v, r, e, h1.gset g, RepKV.gset g h2⟩
theorem RepO.gset {H0 : Hb} {as : List Addr} (g : List (Addr × HO)) : ∀ {o : SO} {u : HO}, RepO C H0 as o u → RepO C ⟨H0.h, g⟩ as o u
  | .dead, _, h => h
  | .lst _, _, ⟨vs, e, h⟩ => ⟨vs, e, h.gset g⟩
  | .dK _, _, ⟨vs, e, h⟩ => ⟨vs, e, h.gset g⟩
  | .dT _, _, ⟨vs, e, h⟩ => ⟨vs, e, h.gset g⟩
theorem EnR.gset {H0 : Hb} {as : List Addr} (g : List (Addr × HO)) {en : En} {σ : L2.St} (e : EnR C H0 as en σ) : EnR C ⟨H0.h, g⟩ as en σ := ⟨e.len, fun i d h => let ⟨v, a, b⟩ := e.at_ i d h; ⟨v, a, b.gset g⟩⟩
theorem im_seq : iM C (miSeq m) σ H R → iSeq C.K (eM C m) σ H R := by
  rintro ⟨H0, as, en, st, s, st', e, w, hm, k⟩
  unfold miSeq at hm
  obtain ⟨⟨d, s1⟩, ha, hm⟩ := Option.bind_eq_some_iff.mp hm
  obtain ⟨s', hs, e'⟩ := Option.map_eq_some_iff.mp hm
  cases e'
  refine ⟨H0, as, en, st, d, _, e, w, ha, fun x H1 as1 H1' l1 w1 r1 => ?_⟩
  cases d with
  | tup ds =>
    cases hs
    obtain ⟨a, vs, rfl, hq, hr⟩ := r1
    exact ⟨a, rfl, .inr ⟨⟨vs, same_seqT w1.ex hq⟩, k _ H1 as1 H1' l1 w1 fun g => itOk_tup hq (hr.gset g)⟩⟩
  | lst ds =>
    cases hs
    obtain ⟨a, vs, rfl, hq, hr⟩ := r1
    exact ⟨a, rfl, .inl ⟨⟨vs, SqL.of (w1.ex _ _ hq)⟩, k _ H1 as1 H1' l1 w1 fun g => itOk_list (vs := vs) fun H2 as2 st2 H2' l2 w2 _ => ⟨vs, SqL.of (w2.ex _ _ (l2.same _ _ hq)), (hr.gset g).mono l2⟩⟩⟩
  | fro ds =>
    cases hs
    obtain ⟨a, vs, rfl, hq, hr⟩ := r1
    exact ⟨a, rfl, .inl ⟨⟨vs, w1.ex.seq hq⟩, k _ H1 as1 H1' l1 w1 fun g => itOk_list (vs := vs) fun H2 as2 st2 H2' l2 w2 _ => ⟨vs, w2.ex.seq (l2.same.seq hq), (hr.gset g).mono l2⟩⟩⟩
  | loc n =>
    obtain ⟨a, ha', rfl⟩ := r1
    unfold srcOf at hs
    dsimp only at hs
    split at hs
    · rename_i he
      cases hs
      obtain ⟨a', vs, hb, _, h1, hr⟩ := w1.loc he
      rw [ha'] at hb
      cases hb
      refine ⟨a, rfl, .inl ⟨⟨vs, SqL.of h1⟩, k _ H1 as1 H1' l1 w1 fun g => itOk_list (vs := vs) fun H2 as2 st2 H2' l2 w2 hk => ?_⟩⟩
      obtain ⟨a'', vs', hb, _, h1, hr⟩ := w2.loc hk
      rw [pre_get l2.pre ha'] at hb
      cases hb
      exact ⟨vs', SqL.of h1, hr⟩
    · cases hs
  | _ => cases hs
theorem im_rng1 : iM C (miRng1 ma) σ H R → iRng1 (aM C ma) σ H R := by
  rintro ⟨H0, as, en, st, s, st', e, w, hm, k⟩
  unfold miRng1 at hm
  obtain ⟨⟨d, s1⟩, ha, hm⟩ := Option.bind_eq_some_iff.mp hm
  dsimp only at hm
  split at hm
  · split at hm
    · rename_i hb
      cases hm
      refine ⟨H0, as, en, st, _, _, e, w, ha, fun vs H1 as1 H1' l1 w1 r1 => ?_⟩
      obtain ⟨v, rfl, rv⟩ := reps1 r1
      cases rep_int rv
      have hs := small_le hb
      have e62 : (2 : Int) ^ 62 = 4611686018427387904 := by decide
      exact ⟨_, rfl, by omega, by omega, k _ H1 as1 H1' l1 w1 fun g => itOk_rng⟩
    · cases hm
  · cases hm
theorem im_rng2 : iM C (miRng2 ma) σ H R → iRng2 (aM C ma) σ H R := by
  rintro ⟨H0, as, en, st, s, st', e, w, hm, k⟩
  unfold miRng2 at hm
  obtain ⟨⟨d, s1⟩, ha, hm⟩ := Option.bind_eq_some_iff.mp hm
  dsimp only at hm
  split at hm
  · split at hm
    · rename_i hb
      cases hm
      refine ⟨H0, as, en, st, _, _, e, w, ha, fun vs H1 as1 H1' l1 w1 r1 => ?_⟩
      obtain ⟨v, v', rfl, rv, rv'⟩ := reps2 r1
      cases rep_int rv
      cases rep_int rv'
      have hs := small_le hb.1
      have ht := small_le hb.2
      have e62 : (2 : Int) ^ 62 = 4611686018427387904 := by decide
      exact ⟨_, _, rfl, by omega, k _ H1 as1 H1' l1 w1 fun g => itOk_rng⟩
    · cases hm
  · cases hm
end

/-! ### for -/
open Classical in
noncomputable def forL (s : Src) (T : Tg) (b : MS) : List D → MS
  | [], en, st => if s.ok st then some (.nx en, st) else none
  | d :: r, en, st => if s.ok st then (setTg T d en).bind fun en' => (b en' st).bind fun q => match q.1 with
      | .nx e => forL s T b r e q.2
      | .ct e => forL s T b r e q.2
      | .bk e => some (.nx e, q.2)
      | .rt d => some (.rt d, q.2)
    else none
noncomputable def mFor (mi : MI) (T : Tg) (b : MS) : MS := fun en st => (mi en st).bind fun p => forL p.1 T b p.1.ds en p.2
theorem Hb.eta (H : Hb) : (⟨H.h, H.g⟩ : Hb) = H := rfl
theorem sm_for {C : Cy} {N : Ends} {σ : L2.St} {H : Hp} {mi : MI} {T : Tg} {mb : MS} : sM C (mFor mi T mb) N σ H → tFor (iM C mi) (tgM C T) (sM C mb) N σ H := by
  rintro ⟨H0, as, en, st, o, st', e, w, hm, k⟩
  unfold mFor at hm
  obtain ⟨⟨s, s1⟩, hs, hm⟩ := Option.bind_eq_some_iff.mp hm
  refine ⟨H0, as, en, st, s, s1, e, w, hs, fun J H1 as1 H1' l1 w1 it => ?_⟩
  have it := it H1.g
  refine ⟨fun i m σ Hx => ∃ H2 as2 en2 st2, Le H1 as1 H2 as2 ∧ EnR C H2 as2 en2 σ ∧ WR C H2 as2 st2 Hx ∧ forL s T mb (s.ds.drop i) en2 st2 = some (o, st') ∧ m = s.ds.length - i,
    ⟨s.ds.length, H1, as1, en, s1, Le.refl, e.mono l1, w1, hm, rfl⟩, ?_⟩
  rintro i m σ1 Hx ⟨H2, as2, en2, st2, l2, e2, w2, h2, rfl⟩
  by_cases hi : i < s.ds.length
  · rw [List.drop_eq_getElem_cons hi] at h2
    unfold forL at h2
    split at h2
    · rename_i hk
      obtain ⟨en3, h3, h2⟩ := Option.bind_eq_some_iff.mp h2
      obtain ⟨⟨o4, st4⟩, h4, h2⟩ := Option.bind_eq_some_iff.mp h2
      obtain ⟨hgo, hy⟩ := (it H2 as2 st2 Hx i l2 w2 hk).1 _ (List.getElem?_eq_getElem hi)
      refine .inr ⟨hgo, fun σ' H' => ∃ H5 as5 en5 st5, Le H1 as1 H5 as5 ∧ EnR C H5 as5 en5 σ' ∧ WR C H5 as5 st5 H' ∧ forL s T mb (s.ds.drop (i + 1)) en5 st5 = some (o, st'), fun σ' H' ⟨H5, as5, en5, st5, a, b, c, d⟩ => ⟨s.ds.length - (i + 1), by omega, H5, as5, en5, st5, a, b, c, d, rfl⟩, fun x H' y => ?_⟩
      obtain ⟨H3, as3, l3, w3, r3⟩ := hy x H' y
      refine ⟨H3, as3, en2, st2, _, en3, e2.mono l3, w3, r3, h3, fun σ5 _ e5 => ?_⟩
      refine ⟨H3, as3, en3, st2, o4, st4, e5, w3, h4, ?_⟩
      cases o4 with
      | nx e' => exact fun σ6 H6 as6 H6' l6 w6 e6 => ⟨H6, as6, e', st4, ((l2.trans l3).trans l6), e6, w6, h2⟩
      | ct e' => exact fun σ6 H6 as6 H6' l6 w6 e6 => ⟨H6, as6, e', st4, ((l2.trans l3).trans l6), e6, w6, h2⟩
      | bk e' =>
        cases h2
        exact fun σ6 H6 as6 H6' l6 w6 e6 => k σ6 H6 as6 H6' (l1.trans ((l2.trans l3).trans l6)) w6 e6
      | rt d =>
        cases h2
        exact fun v H6 as6 H6' l6 w6 r6 => k v H6 as6 H6' (l1.trans ((l2.trans l3).trans l6)) w6 r6
    · cases h2
  · rw [List.drop_eq_nil_of_le (by omega)] at h2
    unfold forL at h2
    split at h2
    · rename_i hk
      cases h2
      exact .inl ⟨(it H2 as2 _ Hx i l2 w2 hk).2 (by omega), k σ1 H2 as2 Hx (l1.trans l2) w2 e2⟩
    · cases h2

/-! ### list comprehensions -/
def wipeE (en : En) : List Nat → En
  | [] => en
  | v :: vs => (wipeE en vs).set v none
theorem EnR.forget {C : Cy} {H0 : Hb} {as : List Addr} {en : En} {σ : L2.St} (e : EnR C H0 as en σ) (v : Nat) : EnR C H0 as (en.set v none) (σ.set v none) := by
  refine ⟨by simp [e.len], fun i d h => ?_⟩
  by_cases hi : i = v
  · subst hi
    by_cases hl : i < en.length
    · rw [List.getElem?_set_self hl] at h
      cases h
    · rw [List.getElem?_eq_none_iff.mpr (by rw [List.length_set]; omega)] at h
      cases h
  · rw [List.getElem?_set_ne (Ne.symm hi)] at h ⊢
    exact e.at_ i d h
theorem EnR.wipe {C : Cy} {H0 : Hb} {as : List Addr} {en : En} {σ : L2.St} (e : EnR C H0 as en σ) : ∀ vs, EnR C H0 as (wipeE en vs) (L2.wipe σ vs)
  | [] => e
  | v :: vs => (EnR.wipe e vs).forget v
theorem wipe_get {σ : L2.St} (i : Nat) : ∀ {vs : List Nat}, i ∉ vs → (L2.wipe σ vs)[i]? = σ[i]?
  | [], _ => rfl
  | v :: vs, h => by
    unfold L2.wipe
    rw [List.getElem?_set_ne (fun z => h (by simp [z])), wipe_get i fun z => h (List.mem_cons_of_mem _ z)]
theorem wipe_in {σ : L2.St} {i : Nat} : ∀ {vs : List Nat}, i ∈ vs → i < σ.length → (L2.wipe σ vs)[i]? = some none
  | v :: vs, h, hl => by
    unfold L2.wipe
    by_cases e : v = i
    · subst e
      exact List.getElem?_set_self (by rw [wipe_length]; exact hl)
    · rw [List.getElem?_set_ne e]
      exact wipe_in ((List.mem_cons.mp h).resolve_left (Ne.symm e)) hl
theorem wipe_eq {σ σ' : L2.St} {vs L : List Nat} (h : SlotEq L (L2.wipe σ vs) σ') (hs : ∀ i ∈ L, i ∈ vs) : L2.wipe σ' vs = L2.wipe σ vs := by
  have hlen : σ'.length = σ.length := h.1.trans (wipe_length σ vs)
  apply List.ext_getElem?
  intro i
  by_cases hi : i ∈ vs
  · by_cases hl : i < σ.length
    · rw [wipe_in hi (by omega), wipe_in hi hl]
    · rw [List.getElem?_eq_none_iff.mpr (by rw [wipe_length]; omega), List.getElem?_eq_none_iff.mpr (by rw [wipe_length]; omega)]
  · rw [wipe_get i hi, h.2 i (fun z => hi (hs i z))]
open Classical in
noncomputable def lcL (s : Src) (T : Tg) (tt : MB) (te : ME) (en : En) : List D → List D → Sto → Option (List D × Sto)
  | [], acc, st => if s.ok st then some (acc, st) else none
  | d :: r, acc, st => if s.ok st then (setTg T d en).bind fun en' => (tt en' st).bind fun p => if p.1 = true then (te en' p.2).bind fun q => if acc.length < sizeLine then lcL s T tt te en r (acc ++ [q.1]) q.2 else none else lcL s T tt te en r acc p.2 else none
noncomputable def mLc (mu : Bool) (mi : MI) (T : Tg) (tt : MB) (te : ME) (vs : List Nat) : ME := fun en st => (mi en st).bind fun p => (lcL p.1 T tt te (wipeE en vs) p.1.ds [] p.2).map fun q => alloc mu q.1 q.2
def mYes : MB := fun _ st => some (true, st)
theorem bm_yes {C : Cy} {σ : L2.St} {H : Hp} {Q : Bool → Hp → Prop} : bM C mYes σ H Q → tYes σ H Q := by
  rintro ⟨H0, as, en, st, b, st', e, w, hm, k⟩
  cases hm
  exact k H0 as H Le.refl w
theorem WR.hold {C : Cy} {H0 : Hb} {H : Hp} {as : List Addr} {st : Sto} (w : WR C H0 as st H) {p : Addr} {o : HO} (hp : H p = none) : WR C ⟨H0.h, (p, o) :: H0.g⟩ as st (upd H p o) := by
  have h0 : H0.h p = none := w.ex.free hp
  have np : p ∉ as := fun z => by
    obtain ⟨u, hu⟩ := w.liv p z
    rw [hp] at hu
    cases hu
  refine ⟨fun b x e => ?_, w.nd, w.len, fun a ha => ?_, fun n a x ha hx => ?_, fun q hq => ?_⟩
  · rw [upd_ne (ne_of_none e h0)]
    exact w.ex b x e
  · obtain ⟨u, hu⟩ := w.liv a ha
    exact ⟨u, by rw [upd_ne (ne_of_none hu hp)]; exact hu⟩
  · rcases w.own n a x ha hx with z | ⟨z, ho, h1, h2⟩
    · exact .inl z
    · exact .inr ⟨z, ho, by rw [upd_ne (ne_of_none h1 hp)]; exact h1, h2.gset _⟩
  · rcases List.mem_cons.mp hq with e | hq
    · subst e
      exact ⟨h0, np, upd_same⟩
    · obtain ⟨h1, h2, h3⟩ := w.gho q hq
      exact ⟨h1, h2, by rw [upd_ne (ne_of_none h3 hp)]; exact h3⟩
/-- what is held aside is changed -/
theorem WR.rehold {C : Cy} {h0 : Hp} {g : List (Addr × HO)} {H : Hp} {as : List Addr} {st : Sto} {p : Addr} {o o' : HO} (w : WR C ⟨h0, (p, o) :: g⟩ as st H) (hg : ∀ q ∈ g, q.1 ≠ p) : WR C ⟨h0, (p, o') :: g⟩ as st (upd H p o') := by
  obtain ⟨n0, np, hp⟩ := w.gho _ (List.mem_cons_self)
  have n0 : h0 p = none := n0
  have np : p ∉ as := np
  refine ⟨fun b x e => ?_, w.nd, w.len, fun a ha => ?_, fun n a x ha hx => ?_, fun q hq => ?_⟩
  · rw [upd_ne (ne_of_none e n0)]
    exact w.ex b x e
  · obtain ⟨u, hu⟩ := w.liv a ha
    exact ⟨u, by rw [upd_ne (fun z => np (by rw [← z]; exact ha))]; exact hu⟩
  · rcases w.own n a x ha hx with z | ⟨z, ho, h1, h2⟩
    · exact .inl z
    · exact .inr ⟨z, ho, by rw [upd_ne (fun e => np (by rw [← e]; exact List.mem_of_getElem? ha))]; exact h1, h2.gset _⟩
  · rcases List.mem_cons.mp hq with e | hq
    · subst e
      exact ⟨n0, np, upd_same⟩
    · obtain ⟨h1, h2, h3⟩ := w.gho q (List.mem_cons_of_mem _ hq)
      exact ⟨h1, h2, by rw [upd_ne (hg q hq)]; exact h3⟩
/-- it is held no more: it stands in the open, with what was held before -/
theorem WR.drop {C : Cy} {h0 : Hp} {g : List (Addr × HO)} {H : Hp} {as : List Addr} {st : Sto} {p : Addr} {o : HO} (w : WR C ⟨h0, (p, o) :: g⟩ as st H) : WR C ⟨h0, g⟩ as st H := by
  refine ⟨w.ex, w.nd, w.len, w.liv, fun n a x ha hx => ?_, fun q hq => w.gho q (List.mem_cons_of_mem _ hq)⟩
  rcases w.own n a x ha hx with z | ⟨z, ho, h1, h2⟩
  · exact .inl z
  · exact .inr ⟨z, ho, h1, h2.gset _⟩
theorem WR.openL {C : Cy} {h0 : Hp} {g : List (Addr × HO)} {H : Hp} {as : List Addr} {st : Sto} {p : Addr} {vs : List V} (w : WR C ⟨h0, (p, .lst vs) :: g⟩ as st H) (hg : ∀ q ∈ g, q.1 ≠ p) : WR C ⟨upd h0 p (.lst vs), g⟩ as st H ∧ Le ⟨h0, g⟩ as ⟨upd h0 p (.lst vs), g⟩ as := by
  obtain ⟨n0, np, hp⟩ := w.gho _ (List.mem_cons_self)
  have n0 : h0 p = none := n0
  have np : p ∉ as := np
  have l : Le ⟨h0, g⟩ as ⟨upd h0 p (.lst vs), g⟩ as := ⟨fun b x e => (show upd h0 p (.lst vs) b = some x by rw [upd_ne (ne_of_none (H := h0) e n0)]; exact e), rfl, List.prefix_rfl⟩
  refine ⟨⟨fun b x e => ?_, w.nd, w.len, w.liv, fun n a x ha hx => ?_, fun q hq => ?_⟩, l⟩
  · have e : upd h0 p (.lst vs) b = some x := e
    by_cases hb : b = p
    · subst hb
      rw [upd_same] at e
      cases e
      exact hp
    · rw [upd_ne hb] at e
      exact w.ex b x e
  · rcases w.drop.own n a x ha hx with z | ⟨z, ho, h1, h2⟩
    · exact .inl z
    · have hap : a ≠ p := fun e => np (by rw [← e]; exact List.mem_of_getElem? ha)
      exact .inr ⟨(show upd h0 p (.lst vs) a = none by rw [upd_ne hap]; exact z), ho, h1, h2.mono l⟩
  · obtain ⟨h1, h2, h3⟩ := w.gho q (List.mem_cons_of_mem _ hq)
    exact ⟨(show upd h0 p (.lst vs) q.1 = none by rw [upd_ne (hg q hq)]; exact h1), h2, h3⟩
theorem WR.openM {C : Cy} {h0 : Hp} {g : List (Addr × HO)} {H : Hp} {as : List Addr} {st : Sto} {p : Addr} {vs : List V} {ds : List D} (w : WR C ⟨h0, (p, .lst vs) :: g⟩ as st H) (hg : ∀ q ∈ g, q.1 ≠ p) (r : Reps C ⟨h0, g⟩ as ds vs) : WR C ⟨h0, g⟩ (as ++ [p]) (st ++ [.lst ds]) H ∧ Le ⟨h0, g⟩ as ⟨h0, g⟩ (as ++ [p]) := by
  obtain ⟨n0, np, hp⟩ := w.gho _ (List.mem_cons_self)
  have n0 : h0 p = none := n0
  have np : p ∉ as := np
  have l : Le ⟨h0, g⟩ as ⟨h0, g⟩ (as ++ [p]) := ⟨Same.refl _, rfl, List.prefix_append _ _⟩
  refine ⟨⟨w.ex, ?_, ?_, fun a ha => ?_, fun n a x ha hx => ?_, fun q hq => ?_⟩, l⟩
  · refine List.nodup_append.mpr ⟨w.nd, by simp, fun a ha b hb => ?_⟩
    have e : b = p := by simpa using hb
    subst e
    exact fun z => np (z ▸ ha)
  · simp [w.len]
  · rcases List.mem_append.mp ha with ha | ha
    · exact w.liv a ha
    · have e : a = p := by simpa using ha
      subst e
      exact ⟨_, hp⟩
  · by_cases hn : n < as.length
    · rw [List.getElem?_append_left hn] at ha
      rw [List.getElem?_append_left (by rw [← w.len]; exact hn)] at hx
      rcases w.drop.own n a x ha hx with z | ⟨z, u, h1, h2⟩
      · exact .inl z
      · exact .inr ⟨z, u, h1, h2.mono l⟩
    · have hn' : n = as.length := by
        have := (List.getElem?_eq_some_iff.mp ha).1
        rw [List.length_append] at this
        simp at this
        omega
      subst hn'
      rw [List.getElem?_append_right (Nat.le_refl _)] at ha
      rw [w.len, List.getElem?_append_right (Nat.le_refl _)] at hx
      simp at ha hx
      subst ha hx
      exact .inr ⟨n0, _, hp, vs, rfl, r.mono l⟩
  · obtain ⟨h1, h2, h3⟩ := w.gho q (List.mem_cons_of_mem _ hq)
    exact ⟨h1, fun z => (List.mem_append.mp z).elim h2 fun z => hg q hq (by simpa using z), h3⟩
theorem em_lc {C : Cy} {mu : Bool} {mi : MI} {T : Tg} {tt : MB} {te : ME} {vs : List Nat} {σ : L2.St} {H : Hp} {Q : VK} (hs : ∀ i ∈ T.slots, i ∈ vs) : eM C (mLc mu mi T tt te vs) σ H Q → tLc (iM C mi) (tgM C T) (bM C tt) (eM C te) vs σ H Q := by
  rintro ⟨H0, as, en, st, d, st', e, w, hm, k⟩
  unfold mLc at hm
  obtain ⟨⟨s, s1⟩, h1, hm⟩ := Option.bind_eq_some_iff.mp hm
  obtain ⟨⟨ys, s2⟩, h2, ea⟩ := Option.map_eq_some_iff.mp hm
  refine ⟨H0, as, en, st, s, s1, e, w, h1, fun J H1 as1 H1' l1 w1 it => fun Dl hD => ?_⟩
  have w2 := w1.hold (o := .lst []) hD
  have hgd : ∀ q ∈ H1.g, q.1 ≠ Dl := fun q hq => ne_of_none (w1.gho q hq).2.2 hD
  refine ⟨fun i m Hx => ∃ H2 as2 st2 acc vacc, Le ⟨H1.h, H1.g⟩ as1 ⟨H2, H1.g⟩ as2 ∧ WR C ⟨H2, (Dl, .lst vacc) :: H1.g⟩ as2 st2 Hx ∧ Reps C ⟨H2, H1.g⟩ as2 acc vacc ∧ lcL s T tt te (wipeE en vs) (s.ds.drop i) acc st2 = some (ys, s2) ∧ m = s.ds.length - i,
    ⟨s.ds.length, H1.h, as1, s1, [], [], Le.refl, w2, rfl, h2, rfl⟩, ?_⟩
  rintro i m Hx ⟨H2, as2, st2, acc, vacc, l2, w2, ra, h2, rfl⟩
  have lg : Le ⟨H1.h, (Dl, .lst vacc) :: H1.g⟩ as1 ⟨H2, (Dl, .lst vacc) :: H1.g⟩ as2 := l2.gset _
  have e2 : EnR C ⟨H2, (Dl, .lst vacc) :: H1.g⟩ as2 (wipeE en vs) (L2.wipe σ vs) := (((e.mono l1).mono l2).gset _).wipe vs
  have itg := it ((Dl, .lst vacc) :: H1.g)
  by_cases hi : i < s.ds.length
  · rw [List.drop_eq_getElem_cons hi] at h2
    unfold lcL at h2
    split at h2
    · rename_i hk
      obtain ⟨en3, h3, h2⟩ := Option.bind_eq_some_iff.mp h2
      obtain ⟨⟨b4, st4⟩, h4, h2⟩ := Option.bind_eq_some_iff.mp h2
      obtain ⟨hgo, hy⟩ := (itg _ as2 st2 Hx i lg w2 hk).1 _ (List.getElem?_eq_getElem hi)
      refine .inr ⟨hgo, fun H' => ∃ H5 as5 st5 acc5 vacc5, Le ⟨H1.h, H1.g⟩ as1 ⟨H5, H1.g⟩ as5 ∧ WR C ⟨H5, (Dl, .lst vacc5) :: H1.g⟩ as5 st5 H' ∧ Reps C ⟨H5, H1.g⟩ as5 acc5 vacc5 ∧ lcL s T tt te (wipeE en vs) (s.ds.drop (i + 1)) acc5 st5 = some (ys, s2),
        fun H' ⟨H5, as5, st5, acc5, vacc5, a, b, c, d⟩ => ⟨s.ds.length - (i + 1), by omega, H5, as5, st5, acc5, vacc5, a, b, c, d, rfl⟩, fun x H' y => ?_⟩
      obtain ⟨⟨H3, g3⟩, as3, l3, w3, r3⟩ := hy x H' y
      cases (show g3 = _ from l3.gh)
      refine ⟨⟨H3, _⟩, as3, wipeE en vs, st2, _, en3, e2.mono l3, w3, r3, h3, fun σ5 se e5 => ⟨wipe_eq se hs, ?_⟩⟩
      refine ⟨⟨H3, _⟩, as3, en3, st2, b4, st4, e5, w3, h4, ?_⟩
      rintro ⟨H4, g4⟩ as4 H4' l4 w4
      cases (show g4 = _ from l4.gh)
      dsimp only at h2 ⊢
      have l24 : Le ⟨H2, (Dl, .lst vacc) :: H1.g⟩ as2 ⟨H4, (Dl, .lst vacc) :: H1.g⟩ as4 := l3.trans l4
      split
      · rename_i hb
        rw [if_pos hb] at h2
        obtain ⟨⟨y5, st5⟩, h5, h2⟩ := Option.bind_eq_some_iff.mp h2
        refine ⟨⟨H4, _⟩, as4, en3, st4, y5, st5, e5.mono l4, w4, h5, ?_⟩
        rintro yv ⟨H5, g5⟩ as5 H5' l5 w5 r5
        cases (show g5 = _ from l5.gh)
        dsimp only at h2
        split at h2
        · rename_i hz
          have l25 := l24.trans l5
          have ra5 : Reps C ⟨H5, H1.g⟩ as5 acc vacc := ra.mono (l25.gset H1.g)
          refine ⟨vacc, (w5.gho _ (List.mem_cons_self)).2.2, by rw [← ra.length]; exact hz, H5, as5, st5, acc ++ [y5], vacc ++ [yv], l2.trans (l25.gset H1.g), w5.rehold hgd, ra5.append (Reps.one (r5.gset _)), h2⟩
        · cases h2
      · rename_i hb
        rw [if_neg hb] at h2
        exact ⟨H4, as4, st4, acc, vacc, l2.trans (l24.gset H1.g), w4, ra.mono (l24.gset H1.g), h2⟩
    · cases h2
  · rw [List.drop_eq_nil_of_le (by omega)] at h2
    unfold lcL at h2
    split at h2
    · rename_i hk
      cases h2
      refine .inl ⟨(itg _ as2 _ Hx i lg w2 hk).2 (by omega), ?_⟩
      have k2 := k.mono (l1.trans l2)
      cases mu with
      | true =>
        cases ea
        obtain ⟨w6, l6⟩ := w2.openM hgd ra
        exact k2 (.ref Dl) _ _ _ l6 w6 ⟨Dl, by rw [← w2.len]; simp, rfl⟩
      | false =>
        cases ea
        obtain ⟨w6, l6⟩ := w2.openL hgd
        exact k2 (.ref Dl) _ _ _ l6 w6 ⟨Dl, vacc, rfl, upd_same, ra.mono l6⟩
    · cases h2
end My


namespace My
open PySem PySem.Spec PyProof.Rows L2

/-! ### what of the store is left behind a call -/
mutual
def clo (n : Nat) : D → Bool
  | .loc m => decide (m < n)
  | .tup ds => clos n ds
  | .lst ds => clos n ds
  | .fro ds => clos n ds
  | .fdk m _ ds => decide (m < n) && clos n ds
  | _ => true
def clos (n : Nat) : List D → Bool
  | [] => true
  | d :: ds => clo n d && clos n ds
end
def cloO (n : Nat) : SO → Bool
  | .dead => true
  | .lst ds => clos n ds
  | .dK kvs => clos n (kvs.map (·.2))
  | .dT kvs => clos n (kvs.map (·.2))
open Classical in
noncomputable def settle (st0 : Sto) (d : D) (st : Sto) : D × Sto :=
  if st.length ≤ st0.length then (d, st)
  else if clo st0.length d = true ∧ ∀ i, i < st0.length → st[i]? = st0[i]? ∨ ∃ o, st[i]? = some o ∧ cloO st0.length o = true then (d, st.take st0.length) else (d, st)
noncomputable def mDef (N n : Nat) (b : MS) : List D → Sto → Option (D × Sto) := fun ds st => if ds.length = n then (b (ds.map some ++ List.replicate (N - ds.length) none) st).bind fun p => match p.1 with
  | .rt d => some (settle st d p.2)
  | .nx _ => some (settle st .non p.2)
  | _ => none
else none
section
variable {C : Cy} {H : Hb} {as : List Addr} {n : Nat}
mutual
theorem Rep.cut : ∀ {d : D} {v : V}, Rep C H as d v → clo n d = true → Rep C H (as.take n) d v
  | .non, _, h, _ => h
  | .bl _, _, h, _ => h
  | .int _, _, h, _ => h
  | .str _, _, h, _ => h
  | .ty _, _, h, _ => h
  | .adr _, _, h, _ => h
  | .tup ds, _, ⟨a, vs, e, hs, hr⟩, c => ⟨a, vs, e, hs, Reps.cutr hr (by unfold clo at c; exact c)⟩
  | .lst ds, _, ⟨a, vs, e, hs, hr⟩, c => ⟨a, vs, e, hs, Reps.cutr hr (by unfold clo at c; exact c)⟩
  | .fro ds, _, ⟨a, vs, e, hs, hr⟩, c => ⟨a, vs, e, hs, Reps.cutr hr (by unfold clo at c; exact c)⟩
  | .loc m, _, ⟨a, ha, e⟩, c => ⟨a, by
      unfold clo at c
      rw [List.getElem?_take_of_lt (of_decide_eq_true c)]
      exact ha, e⟩
  | .fdk m ks ds, _, ⟨a, ob, vs, ha, e, hs, hl, hr⟩, c => by
      unfold clo at c
      rw [Bool.and_eq_true] at c
      exact ⟨a, ob, vs, by rw [List.getElem?_take_of_lt (of_decide_eq_true c.1)]; exact ha, e, hs, hl, Reps.cutr hr c.2⟩
theorem Reps.cutr : ∀ {ds : List D} {vs : List V}, Reps C H as ds vs → clos n ds = true → Reps C H (as.take n) ds vs
  | [], _, h, _ => h
  | d :: ds, _, ⟨v, r, e, h1, h2⟩, c => by
    unfold clos at c
    rw [Bool.and_eq_true] at c
    exact ⟨v, r, e, Rep.cut h1 c.1, Reps.cutr h2 c.2⟩
end
theorem RepKV.cut {κ : Type} : ∀ {ds : List (κ × D)} {vs : List (κ × V)}, RepKV C H as ds vs → clos n (ds.map (·.2)) = true → RepKV C H (as.take n) ds vs
  | [], _, h, _ => h
  | (k, d) :: ds, _, ⟨v, r, e, h1, h2⟩, c => by
    rw [List.map_cons] at c
    unfold clos at c
    rw [Bool.and_eq_true] at c
    exact ⟨v, r, e, h1.cut c.1, RepKV.cut h2 c.2⟩
theorem RepO.cut : ∀ {o : SO} {u : HO}, RepO C H as o u → cloO n o = true → RepO C H (as.take n) o u
  | .dead, _, h, _ => h
  | .lst _, _, ⟨vs, e, h⟩, c => ⟨vs, e, h.cutr c⟩
  | .dK _, _, ⟨vs, e, h⟩, c => ⟨vs, e, h.cut c⟩
  | .dT _, _, ⟨vs, e, h⟩, c => ⟨vs, e, h.cut c⟩
mutual
theorem Rep.clo : ∀ {d : D} {v : V}, Rep C H as d v → My.clo as.length d = true
  | .non, _, _ => rfl
  | .bl _, _, _ => rfl
  | .int _, _, _ => rfl
  | .str _, _, _ => rfl
  | .ty _, _, _ => rfl
  | .adr _, _, _ => rfl
  | .tup ds, _, ⟨a, vs, e, hs, hr⟩ => by unfold My.clo; exact Reps.clo hr
  | .lst ds, _, ⟨a, vs, e, hs, hr⟩ => by unfold My.clo; exact Reps.clo hr
  | .fro ds, _, ⟨a, vs, e, hs, hr⟩ => by unfold My.clo; exact Reps.clo hr
  | .loc m, _, ⟨a, ha, e⟩ => decide_eq_true (List.getElem?_eq_some_iff.mp ha).1
  | .fdk m _ ds, _, ⟨a, ob, vs, ha, e, hs, hl, hr⟩ => by
    unfold My.clo
    rw [decide_eq_true (List.getElem?_eq_some_iff.mp ha).1, Reps.clo hr]
    rfl
theorem Reps.clo : ∀ {ds : List D} {vs : List V}, Reps C H as ds vs → My.clos as.length ds = true
  | [], _, _ => rfl
  | d :: ds, _, ⟨v, r, e, h1, h2⟩ => by
    unfold clos
    rw [Rep.clo h1, Reps.clo h2]
    rfl
end
theorem RepKV.clo {κ : Type} : ∀ {ds : List (κ × D)} {vs : List (κ × V)}, RepKV C H as ds vs → My.clos as.length (ds.map (·.2)) = true
  | [], _, _ => rfl
  | (k, d) :: ds, _, ⟨v, r, e, h1, h2⟩ => by
    rw [List.map_cons]
    unfold clos
    rw [Rep.clo h1, RepKV.clo h2]
    rfl
theorem RepO.clo : ∀ {o : SO} {u : HO}, RepO C H as o u → cloO as.length o = true
  | .dead, _, _ => rfl
  | .lst _, _, ⟨vs, e, h⟩ => h.clo
  | .dK _, _, ⟨vs, e, h⟩ => h.clo
  | .dT _, _, ⟨vs, e, h⟩ => h.clo
theorem settle_ok {H0 H1 : Hb} {as0 as1 : List Addr} {st0 st1 st2 : Sto} {d d2 : D} {v : V} {Hx Hy : Hp} {Q : VK} (w0 : WR C H0 as0 st0 Hx) (l : Le H0 as0 H1 as1) (w1 : WR C H1 as1 st1 Hy) (r : Rep C H1 as1 d v) (e : settle st0 d st1 = (d2, st2)) (k : KE C H0 as0 st2 d2 Q) : Q v Hy := by
  unfold settle at e
  split at e
  · cases e
    exact k v H1 as1 Hy l w1 r
  · rename_i hl
    split at e
    · rename_i hc
      cases e
      have e0 : as1.take st0.length = as0 := by
        obtain ⟨t, rfl⟩ := l.pre
        rw [← w0.len]
        exact List.take_left' rfl
      have rc : Rep C H1 (as1.take st0.length) d v := r.cut hc.1
      rw [e0] at rc
      refine k v H1 as0 Hy ⟨l.same, l.gh, List.prefix_rfl⟩ ⟨w1.ex, w0.nd, ?_, fun a ha => ?_, fun m a o ha ho => ?_, fun q hq => ?_⟩ rc
      · rw [List.length_take, w0.len]
        omega
      · exact w1.liv a (l.pre.subset ha)
      · have hm : m < st0.length := by
          have := (List.getElem?_eq_some_iff.mp ha).1
          rw [w0.len] at this
          exact this
        rw [List.getElem?_take_of_lt hm] at ho
        rcases w1.own m a o (pre_get l.pre ha) ho with z | ⟨z, u, h1, h2⟩
        · exact .inl z
        · rcases hc.2 m hm with q | ⟨o', q1, q2⟩
          · rw [ho] at q
            rcases w0.own m a o ha q.symm with z' | ⟨z', u', h1', h2'⟩
            · exact .inl z'
            · have h3 := h2.cut (w0.len ▸ h2'.clo)
              rw [e0] at h3
              exact .inr ⟨z, u, h1, h3⟩
          · rw [ho] at q1
            cases q1
            have h3 := h2.cut q2
            rw [e0] at h3
            exact .inr ⟨z, u, h1, h3⟩
      · obtain ⟨h1, h2, h3⟩ := w1.gho q hq
        exact ⟨h1, fun z => h2 (l.pre.subset z), h3⟩
    · cases e
      exact k v H1 as1 Hy l w1 r
end

/-! ### frozen: a mutable list that is not changed any more -/
def mFrz (m : ME) : ME := fun en st => (m en st).bind fun p => match p.1 with
  | .loc n => match p.2[n]? with
    | some (.lst ds) => some (.lst ds, p.2.set n .dead)
    | _ => none
  | d => some (d, p.2)
theorem WR.frz {C : Cy} {H0 : Hb} {H : Hp} {as : List Addr} {st : Sto} (w : WR C H0 as st H) {n : Nat} {a : Addr} {vs : List V} (ha : as[n]? = some a) (hn : H0.h a = none) (h1 : H a = some (.lst vs)) : WR C ⟨upd H0.h a (.lst vs), H0.g⟩ as (st.set n .dead) H ∧ Le H0 as ⟨upd H0.h a (.lst vs), H0.g⟩ as := by
  have l : Le H0 as ⟨upd H0.h a (.lst vs), H0.g⟩ as := ⟨fun b x e => (show upd H0.h a (.lst vs) b = some x by rw [upd_ne (ne_of_none e hn)]; exact e), rfl, List.prefix_rfl⟩
  refine ⟨⟨fun b x e => ?_, w.nd, by rw [List.length_set, w.len], w.liv, fun m b x hb hx => ?_, fun q hq => ?_⟩, l⟩
  · have e : upd H0.h a (.lst vs) b = some x := e
    by_cases hb : b = a
    · subst hb
      rw [upd_same] at e
      rw [← e]
      exact h1
    · rw [upd_ne hb] at e
      exact w.ex b x e
  · by_cases e : m = n
    · subst e
      have hl : m < st.length := by
        have := (List.getElem?_eq_some_iff.mp ha).1
        rw [w.len] at this
        exact this
      rw [List.getElem?_set_self hl] at hx
      cases hx
      exact .inl rfl
    · rw [List.getElem?_set_ne (Ne.symm e)] at hx
      have hba : b ≠ a := fun z => by
        subst z
        obtain ⟨h1, e1⟩ := List.getElem?_eq_some_iff.mp ha
        obtain ⟨h2, e2⟩ := List.getElem?_eq_some_iff.mp hb
        exact e ((List.getElem_inj w.nd).mp (e2.trans e1.symm))
      rcases w.own m b x hb hx with z | ⟨z, u, h1, h2⟩
      · exact .inl z
      · exact .inr ⟨(show upd H0.h a (.lst vs) b = none by rw [upd_ne hba]; exact z), u, h1, h2.mono l⟩
  · obtain ⟨g1, g2, g3⟩ := w.gho q hq
    have hqa : q.1 ≠ a := fun z => g2 (by rw [z]; exact List.mem_of_getElem? ha)
    exact ⟨(show upd H0.h a (.lst vs) q.1 = none by rw [upd_ne hqa]; exact g1), g2, g3⟩
theorem em_frz {C : Cy} {m : ME} {σ : L2.St} {H : Hp} {Q : VK} : eM C (mFrz m) σ H Q → eM C m σ H Q := by
  rintro ⟨H0, as, en, st, d, st', e, w, hm, k⟩
  unfold mFrz at hm
  obtain ⟨⟨d1, s1⟩, ha, hm⟩ := Option.bind_eq_some_iff.mp hm
  refine ⟨H0, as, en, st, d1, s1, e, w, ha, fun v H1 as1 H1' l1 w1 r1 => ?_⟩
  cases d1 with
  | loc n =>
    dsimp only at hm
    split at hm
    · rename_i he
      cases hm
      obtain ⟨a, vs, ha', hn, h1, hr⟩ := w1.loc he
      obtain ⟨a', hb, rfl⟩ := r1
      rw [ha'] at hb
      cases hb
      obtain ⟨w2, l2⟩ := w1.frz ha' hn h1
      exact k _ _ _ _ (l1.trans l2) w2 ⟨a, vs, rfl, upd_same, hr.mono l2⟩
    · cases hm
  | _ =>
    cases hm
    exact k v H1 as1 H1' l1 w1 r1

/-! ### defs -/
def spM (C : Cy) (f : List D → Sto → Option (D × Sto)) : Sp := fun vs H Q _ => ∃ H0 as ds st d st', Reps C H0 as ds vs ∧ WR C H0 as st H ∧ f ds st = some (d, st') ∧ KE C H0 as st' d Q
theorem start_env {C : Cy} {H0 : Hb} {as : List Addr} {ds : List D} {vs : List V} {N : List Str} (r : Reps C H0 as ds vs) : EnR C H0 as (ds.map some ++ List.replicate (N.length - ds.length) none) (L2.start N vs) := by
  unfold L2.start
  refine ⟨by simp [r.length], fun i d h => ?_⟩
  by_cases hi : i < ds.length
  · rw [List.getElem?_append_left (by simpa using hi), List.getElem?_map] at h
    obtain ⟨d', hd, e⟩ := Option.map_eq_some_iff.mp h
    cases e
    obtain ⟨v, hv, rv⟩ := r.get hd
    exact ⟨v, by rw [List.getElem?_append_left (by rw [List.length_map, ← r.length]; exact hi), List.getElem?_map, hv]; rfl, rv⟩
  · rw [List.getElem?_append_right (by simpa using hi)] at h
    obtain ⟨_, e⟩ := List.getElem?_eq_some_iff.mp h
    rw [List.getElem_replicate] at e
    cases e
section
variable {P : Program} {w : World} {K : PySem.W.Frag} {mg : Str → Option Value} {base : Heap}
theorem x_def {x qual : Str} {st : Stmt} {f : Addr} {fd : FuncData} {N ps : List Str} {k nN nP : Nat} {mb : MS} (F : Fun K x qual st f fd) (S : FnScope N ps (defScope st)) (eN : N.length = nN) (eP : ps.length = nP)
    (body : ∀ (cdv : Value) (A : Around) (outer : List Env) (s : Shared) (H : Hp) (E : XK), Room k (A.deeper (envOfC qual (defScope st) s.heap.objs.size f cdv)) →
      PSs (cxOf CX0 P w K mg base N qual (defScope st) f cdv A outer s H E).nox (defBody st) (sM ⟨K, P, w⟩ mb)) : FnOk P w K mg base CX0 (k + 1) f fd ps (spM ⟨K, P, w⟩ (mDef nN nP mb)) := by
  subst eN eP
  have len : ∀ {ds : List D} {st : Sto} {d : D} {st' : Sto}, mDef N.length ps.length mb ds st = some (d, st') → ds.length = ps.length := by
    intro ds st d st' h
    unfold mDef at h
    split at h
    · assumption
    · cases h
  refine F.ok S (fun vs H Q E ⟨H0, as, ds, st, d, st', r, _, h, _⟩ => by rw [← r.length]; exact len h) fun cdv A outer s H vs Q E hr h => ⟨_, body cdv A outer s H E hr, ?_⟩
  obtain ⟨H0, as, ds, st, d, st', r, w0, hm, kq⟩ := h
  have hl := len hm
  unfold mDef at hm
  rw [if_pos hl] at hm
  obtain ⟨⟨o, s1⟩, h1, hm⟩ := Option.bind_eq_some_iff.mp hm
  refine ⟨H0, as, _, st, o, s1, start_env r, w0, h1, ?_⟩
  cases o with
  | nx en =>
    intro σ1 H1 as1 H1' l1 w1 e1
    exact settle_ok w0 l1 w1 (d := .non) (v := .non) rfl (Option.some.inj hm) kq
  | rt d1 =>
    intro v H1 as1 H1' l1 w1 r1
    exact settle_ok w0 l1 w1 r1 (Option.some.inj hm) kq
  | bk en => cases hm
  | ct en => cases hm
/-- a def of which nothing is asked -/
theorem x_def0 {f : Addr} {fd : FuncData} {ps : List Str} {C : Cy} {k : Nat} : FnOk P w K mg base CX0 k f fd ps (spM C fun _ _ => none) :=
  ⟨fun _ _ _ _ h => (by obtain ⟨H0, as, ds, st, d, st', r, _, h, _⟩ := h; cases h), fun _ _ _ _ _ _ _ _ _ _ _ _ _ h => (by obtain ⟨H0, as, ds, st, d, st', r, _, h, _⟩ := h; cases h)⟩
end
/-- keywords: the arguments as they are written, taken to the parameters' places -/
def pick {α : Type} (p : List Nat) (l : List α) : List α := p.filterMap fun i => l[i]?
structure KwB (fd : FuncData) (ps : List Str) (n : Nat) (ks : List Str) (p : List Nat) : Prop where
  to : ∀ us ws : List Value, us.length = n → ws.length = ks.length → bindArgs fd ⟨us, ks.zip ws⟩ = pure (ps.zip (pick p (us ++ ws)))
theorem pick_vals {xs : List V} {us : List Value} (r : Vals xs us) : ∀ p : List Nat, Vals (pick p xs) (pick p us)
  | [] => .nil
  | i :: p => by
    have ih := pick_vals r p
    unfold pick at ih ⊢
    rw [List.filterMap_cons, List.filterMap_cons]
    cases h : xs[i]? with
    | none => rw [r.none_of h]; exact ih
    | some x =>
      obtain ⟨u, hu, ru⟩ := r.get h
      rw [hu]
      exact .cons ru ih
theorem pick_reps {C : Cy} {H : Hb} {as : List Addr} {ds : List D} {vs : List V} (r : Reps C H as ds vs) : ∀ p : List Nat, Reps C H as (pick p ds) (pick p vs)
  | [] => rfl
  | i :: p => by
    have ih := pick_reps r p
    unfold pick at ih ⊢
    rw [List.filterMap_cons, List.filterMap_cons]
    cases h : ds[i]? with
    | none =>
      have h2 : vs[i]? = none := List.getElem?_eq_none_iff.mpr (by rw [← r.length]; exact List.getElem?_eq_none_iff.mp h)
      rw [h2]
      exact ih
    | some d =>
      obtain ⟨v, hv, rv⟩ := r.get h
      rw [hv]
      exact ⟨v, _, rfl, rv, ih⟩
theorem Fun.kw {K : PySem.W.Frag} {x qual : Str} {st : Stmt} {f : Addr} {fd : FuncData} {ps ks : List Str} {n : Nat} {p : List Nat} (F : Fun K x qual st f fd)
    (h : ∀ (kV doc pm : Value) (an : Option Addr) (cdv ct : Value) (us ws : List Value), us.length = n → ws.length = ks.length → bindArgs (PySem.W.fnOf x qual (defArgs st) (defBody st) (defScope st) .none kV doc pm an cdv ct) ⟨us, ks.zip ws⟩ = pure (ps.zip (pick p (us ++ ws)))) : KwB fd ps n ks p := by
  obtain ⟨oc, od, kV, doc, pm, an, cdv, ct, osl, rfl, lk, hcd⟩ := F.ex
  exact ⟨h kV doc pm an cdv ct⟩
/-- keyword arguments -/
def mCbK (g : List D → Sto → Option (D × Sto)) (n m : Nat) (pm : List Nat) (a b : MA) : ME := fun en st => (a en st).bind fun p => (b en p.2).bind fun q => if p.1.length = n ∧ q.1.length = m then g (pick pm (p.1 ++ q.1)) q.2 else none
section
variable {X : Cx} {k : Nat} {f : Addr} {fd : FuncData} {ps ks : List Str} {x : Str} {p pos : Pos} {e : Expr} {es : List Expr} {kws : List Keyword} {ma mk : MA} {g : List D → Sto → Option (D × Sto)} {n : Nat} {pm : List Nat}
theorem PK.imp {t t' : TA} (h : PK X kws t) (i : ∀ σ H Q, t' σ H Q → t σ H Q) : PK X kws t' := ⟨fun pos pins s σ H Q I w => h.run pos pins s σ H Q I (i σ H Q w)⟩
theorem x_call (G : FnOk X.prog X.w X.K X.mg X.base CX0 k f fd ps (spM (cyOf X) g)) (hr : Room k X.A) (hg : Gl X x) (hm : X.mg x = some (.ref f)) (hk : PySem.W.keepIn X.K (.ref f) = true) (hb : Binds X.K fd ps [])
    (ha : PA X (e :: es) (aM (cyOf X) ma)) (hdb : (x == ("__debug__" : Str)) = false := by decide) (he : starEach (e :: es) X.env = (false, eval e X.env) :: starEach es X.env := by rfl) (hpl : (backTo pos (starEach es X.env)).any (·.1) = false := by rfl) :
    PE X (.Call (.Name x p) (e :: es) [] pos) (eM (cyOf X) (mCb g ma)) := by
  refine PE.imp (pe_call G hr hg hm hk hb .nil pass0 ha hdb he hpl) fun σ H Q => ?_
  rintro ⟨H0, as, en, st, d, st', e, w, hm, k⟩
  unfold mCb at hm
  obtain ⟨⟨da, s1⟩, ha, hm⟩ := Option.bind_eq_some_iff.mp hm
  refine ⟨H0, as, en, st, da, s1, e, w, ha, fun vs H1 as1 H1' l1 w1 r1 => ?_⟩
  exact ⟨H1, as1, da, s1, d, st', by rw [List.append_nil]; exact r1, w1, hm, k.mono l1⟩
theorem x_call0 (G : FnOk X.prog X.w X.K X.mg X.base CX0 k f fd ps (spM (cyOf X) g)) (hr : Room k X.A) (hg : Gl X x) (hm : X.mg x = some (.ref f)) (hk : PySem.W.keepIn X.K (.ref f) = true) (hb : Binds X.K fd ps [])
    (hdb : (x == ("__debug__" : Str)) = false := by decide) : PE X (.Call (.Name x p) [] [] pos) (eM (cyOf X) (mCb g mNil)) := by
  refine PE.imp (pe_call0 G hr hg hm hk hb .nil pass0 hdb) fun σ H Q => ?_
  rintro ⟨H0, as, en, st, d, st', e, w, hm, k⟩
  exact ⟨H0, as, [], st, d, st', rfl, w, hm, k⟩
theorem run_kw {pins : List (Addr × Obj)} {σ : L2.St} {H : Hp} {s : Shared} {Q : VK} {us ws : List Value} {vs zs : List V} (G : FnOk X.prog X.w X.K X.mg X.base CX0 k f fd ps (spM (cyOf X) g)) (hr : Room k X.A) (hb : KwB fd ps n ks pm)
    (I : Inv X pins σ H s) (r : Vals vs us) (rz : Vals zs ws) (l1 : vs.length = n) (l2 : zs.length = ks.length) (h : spM (cyOf X) g (pick pm (vs ++ zs)) H Q E0) : wpAny (model X.prog X.w) X.A (call (.ref f) us (ks.zip ws)) (EP X pins σ Q) X.xe s := by
  refine wpAny_call (codeAny_mono (G.run X.A X.stack s H ⟨us, ks.zip ws⟩ (pick pm (us ++ ws)) (pick pm (vs ++ zs)) Q E0 hr I.env0 (.of_eq (hb.to us ws (by rw [← r.length]; exact l1) (by rw [← rz.length]; exact l2))) (pick_vals (r.append rz) pm) h) fun r s' hq => ?_)
  cases r with
  | error e => exact False.elim hq
  | ok fl =>
    cases fl with
    | ret u => exact I.after hq
    | next => exact False.elim hq
    | brk => exact False.elim hq
    | cont => exact False.elim hq
theorem x_callK0 (G : FnOk X.prog X.w X.K X.mg X.base CX0 k f fd ps (spM (cyOf X) g)) (hr : Room k X.A) (hg : Gl X x) (hm : X.mg x = some (.ref f)) (hk : PySem.W.keepIn X.K (.ref f) = true) (hb : KwB fd ps 0 ks pm) (hkw : PK X kws (aM (cyOf X) mk))
    (hall : (backToKw pos (keywordEach kws X.env)).all (·.1.isSome) = true := by rfl) (hks : (backToKw pos (keywordEach kws X.env)).filterMap (·.1) = ks := by rfl) (hdb : (x == ("__debug__" : Str)) = false := by decide)
    (hpl : ((backTo pos (starEach [] X.env)).any (·.1) || (backToKw pos (keywordEach kws X.env)).any (·.1.isNone)) = false := by rfl) :
    PE X (.Call (.Name x p) [] kws pos) (eM (cyOf X) (mCbK g 0 ks.length pm mNil mk)) := by
  refine ⟨fun pins s σ H Q I h => ?_⟩
  refine wpAny_Call_Name_kw (ld_glob I hg hm ?_ hdb)
  refine PySem.W.callWith_KW0 (h₀ := X.base) I.ok.mod.kin hk hall ?_ hpl
  obtain ⟨H0, as, en, st, d, st', e, w, hm, k⟩ := h
  unfold mCbK at hm
  obtain ⟨⟨da, s1⟩, ha, hm⟩ := Option.bind_eq_some_iff.mp hm
  cases ha
  obtain ⟨⟨db, s2⟩, hb', hm⟩ := Option.bind_eq_some_iff.mp hm
  dsimp only at hm
  split at hm
  · rename_i hl
    refine thn (hkw.run pos pins s σ H (fun zs H2 => zs.length = ks.length ∧ spM (cyOf X) g (pick pm zs) H2 Q E0) I ⟨H0, as, en, st, db, s2, e, w, hb', fun vs H1 as1 H1' l1 w1 r1 => ⟨by rw [← r1.length]; exact hl.2, H1, as1, pick pm db, s2, d, st', pick_reps r1 pm, w1, hm, k.mono l1⟩⟩) fun ws s2 ⟨zs, H2, I2, rz, q1, q2⟩ => ⟨I2.kIn, ?_⟩
    rw [hks]
    exact run_kw (us := []) (vs := []) G hr hb I2 .nil rz rfl q1 q2
  · cases hm
theorem x_callK (G : FnOk X.prog X.w X.K X.mg X.base CX0 k f fd ps (spM (cyOf X) g)) (hr : Room k X.A) (hg : Gl X x) (hm : X.mg x = some (.ref f)) (hk : PySem.W.keepIn X.K (.ref f) = true) (hb : KwB fd ps n ks pm) (ha : PA X (e :: es) (aM (cyOf X) ma)) (hkw : PK X kws (aM (cyOf X) mk))
    (hall : (backToKw pos (keywordEach kws X.env)).all (·.1.isSome) = true := by rfl) (hks : (backToKw pos (keywordEach kws X.env)).filterMap (·.1) = ks := by rfl) (hdb : (x == ("__debug__" : Str)) = false := by decide)
    (he : starEach (e :: es) X.env = (false, eval e X.env) :: starEach es X.env := by rfl)
    (hpl : ((backTo pos (starEach (e :: es) X.env)).any (·.1) || (backToKw pos (keywordEach kws X.env)).any (·.1.isNone)) = false := by rfl) :
    PE X (.Call (.Name x p) (e :: es) kws pos) (eM (cyOf X) (mCbK g n ks.length pm ma mk)) := by
  refine ⟨fun pins s σ H Q I h => ?_⟩
  refine wpAny_Call_Name_kw (ld_glob I hg hm ?_ hdb)
  obtain ⟨H0, as, en, st, d, st', e', w, hm, k⟩ := h
  unfold mCbK at hm
  obtain ⟨⟨da, s1⟩, ha', hm⟩ := Option.bind_eq_some_iff.mp hm
  obtain ⟨⟨db, s2⟩, hb', hm⟩ := Option.bind_eq_some_iff.mp hm
  dsimp only at hm
  split at hm
  · rename_i hl
    refine PySem.W.callWith_KW (h₀ := X.base) I.ok.mod.kin hk hall (thn (ha.run pos pins s σ H (fun vs H1 => vs.length = n ∧ aM (cyOf X) mk σ H1 fun zs H2 => zs.length = ks.length ∧ spM (cyOf X) g (pick pm (vs ++ zs)) H2 Q E0) I
      ⟨H0, as, en, st, da, s1, e', w, ha', fun vs H1 as1 H1' l1 w1 r1 => ⟨by rw [← r1.length]; exact hl.1, H1, as1, en, s1, db, s2, e'.mono l1, w1, hb', fun zs H2 as2 H2' l2 w2 r2 => ⟨by rw [← r2.length]; exact hl.2, H2, as2, pick pm (da ++ db), s2, d, st', pick_reps ((r1.mono l2).append r2) pm, w2, hm, k.mono (l1.trans l2)⟩⟩⟩) fun us s1 ⟨vs, H1, I1, r, q0, q⟩ => ?_) hpl he
    refine thn (hkw.run pos pins s1 σ H1 _ I1 q) fun ws s2 ⟨zs, H2, I2, rz, q1, q2⟩ => ⟨I2.kIn, ?_⟩
    rw [hks]
    exact run_kw G hr hb I2 r rz q0 q1 q2
  · cases hm
end
end My


namespace My
open PySem PySem.Spec PyProof.Rows L2

section
variable {X : Cx} {e a b : Expr} {es : List Expr} {ma mb : ME} {mr : MA} {mc md : MB} {pos p : Pos} {x : Str}
/-! ### names, constants -/
theorem x_v (i : Nat) (hN : X.N[i]? = some x := by rfl) (hv : Vis X.env.scope x := by first | exact Or.inl rfl | exact Or.inr (Or.inl rfl) | exact Or.inr (Or.inr rfl)) (hd : (x == ("__debug__" : Str)) = false := by decide)
    (hcd : (x == ("__classdict__" : Str)) = false := by decide) : PE X (.Name x pos) (eM (cyOf X) (mV i)) := PE.imp (pv i hN hv hd hcd) fun _ _ _ => em_v
theorem x_int {i : Int} {j} : PE X (.Constant (.int i) j pos) (eM (cyOf X) (mC (.int i))) := PE.imp pe_int fun _ _ _ => em_c fun _ _ => rfl
theorem x_bl {i : Bool} {j} : PE X (.Constant (.bool i) j pos) (eM (cyOf X) (mC (.bl i))) := PE.imp pe_bl fun _ _ _ => em_c fun _ _ => rfl
theorem x_non {j} : PE X (.Constant .none j pos) (eM (cyOf X) (mC .non)) := PE.imp pe_non fun _ _ _ => em_c fun _ _ => rfl
theorem x_str {i : Str} {j} : PE X (.Constant (.str i) j pos) (eM (cyOf X) (mC (.str i))) := PE.imp pe_str fun _ _ _ => em_c fun _ _ => rfl
theorem x_ty {n : String} (hg : Gl X x) (hm : X.mg x = none) (hv : bootBuiltins x = some (.type n)) (hn : x ≠ "__name__" := by decide) (hd : (x == ("__debug__" : Str)) = false := by decide) : PE X (.Name x pos) (eM (cyOf X) (mC (.ty n))) := PE.imp (pe_bltn hg hm hv (v := .ty n) rfl hn hd) fun _ _ _ => em_c fun _ _ => rfl
/-! ### operators -/
theorem x_op {op : Operator} {r : R2} {f : D → D → Sto → Option (D × Sto)} (ho : OpR X (binaryOp op) r) (ok : Ok2 (cyOf X) r f) (ha : PE X a (eM (cyOf X) ma)) (hb : PE X b (eM (cyOf X) mb)) : PE X (.BinOp a op b pos) (eM (cyOf X) (mOp f ma mb)) := PE.imp (pe_op ho ha hb) fun _ _ _ => em_op ok
theorem x_add (mu : Bool) (ha : PE X a (eM (cyOf X) ma)) (hb : PE X b (eM (cyOf X) mb)) : PE X (.BinOp a .Add b pos) (eM (cyOf X) (mOp (fAdd mu) ma mb)) := x_op op_addA ok_add ha hb
theorem x_sub (ha : PE X a (eM (cyOf X) ma)) (hb : PE X b (eM (cyOf X) mb)) : PE X (.BinOp a .Sub b pos) (eM (cyOf X) (mOp fSub ma mb)) := x_op op_sub ok_sub ha hb
theorem x_mul (mu : Bool) (ha : PE X a (eM (cyOf X) ma)) (hb : PE X b (eM (cyOf X) mb)) : PE X (.BinOp a .Mult b pos) (eM (cyOf X) (mOp (fMul mu) ma mb)) := x_op op_mulA ok_mul ha hb
theorem x_fdiv (ha : PE X a (eM (cyOf X) ma)) (hb : PE X b (eM (cyOf X) mb)) : PE X (.BinOp a .FloorDiv b pos) (eM (cyOf X) (mOp fDiv ma mb)) :=
  x_op op_fdivW (ok_fI fun i j h => by
    unfold cDiv at h
    rw [Bool.and_eq_true] at h
    exact ⟨of_decide_eq_true h.1, of_decide_eq_true h.2⟩) ha hb
theorem x_mod (ha : PE X a (eM (cyOf X) ma)) (hb : PE X b (eM (cyOf X) mb)) : PE X (.BinOp a .Mod b pos) (eM (cyOf X) (mOp fMod ma mb)) := x_op op_mod (ok_fI fun i j h => of_decide_eq_true h) ha hb
theorem x_pow (ha : PE X a (eM (cyOf X) ma)) (hb : PE X b (eM (cyOf X) mb)) : PE X (.BinOp a .Pow b pos) (eM (cyOf X) (mOp fPow ma mb)) := x_op op_pow (ok_fI fun i j h => cPow_ok h) ha hb
theorem x_shl (ha : PE X a (eM (cyOf X) ma)) (hb : PE X b (eM (cyOf X) mb)) : PE X (.BinOp a .LShift b pos) (eM (cyOf X) (mOp fShl ma mb)) := x_op op_shl (ok_fI fun i j h => cPow_ok h) ha hb
theorem x_neg (ha : PE X a (eM (cyOf X) ma)) : PE X (.UnaryOp .USub a pos) (eM (cyOf X) (mUn fNeg ma)) := PE.imp (pe_un un_neg ha) fun _ _ _ => em_un ok_neg
/-! ### comparisons -/
theorem x_cmp {op : CmpOp} {r : R2} {f : D → D → Sto → Option (D × Sto)} (ho : OpR X (compareOp op) r) (ok : Ok2 (cyOf X) r f) (ha : PE X a (eM (cyOf X) ma)) (hb : PE X b (eM (cyOf X) mb)) (hm : behindInMarks op b = false) : PE X (.Compare a [op] [b] pos) (eM (cyOf X) (mOp f ma mb)) := PE.imp (pe_cmpR ho ha hb hm) fun _ _ _ => em_op ok
theorem y_cmp {op : CmpOp} {r : R2} {f : D → D → Sto → Option (D × Sto)} (ho : OpR X (compareOp op) r) (ok : Ok2 (cyOf X) r f) (ha : PE X a (eM (cyOf X) ma)) (hb : PE X b (eM (cyOf X) mb)) (hm : behindInMarks op b = false) : PT X (.Compare a [op] [b] pos) (bM (cyOf X) (mTB (mOp f ma mb))) := PT.imp (pt_cmpR ho ha hb hm) fun _ _ _ h => em_op ok (bm_bool h)
theorem k_lt : OpR X (compareOp .Lt) rLtA ∧ Ok2 (cyOf X) rLtA fLt := ⟨op_ltA, ok_lt⟩
theorem k_le : OpR X (compareOp .LtE) (rI0 fun i j => .bl (decide (i ≤ j))) ∧ Ok2 (cyOf X) (rI0 fun i j => .bl (decide (i ≤ j))) fLe := ⟨op_le, ok_fB⟩
theorem k_gt : OpR X (compareOp .Gt) (rI0 fun i j => .bl (decide (j < i))) ∧ Ok2 (cyOf X) (rI0 fun i j => .bl (decide (j < i))) fGt := ⟨op_gt, ok_fB⟩
theorem k_ge : OpR X (compareOp .GtE) (rI0 fun i j => .bl (decide (j ≤ i))) ∧ Ok2 (cyOf X) (rI0 fun i j => .bl (decide (j ≤ i))) fGe := ⟨op_ge, ok_fB⟩
theorem k_eq {k : Nat} (hr : Room k X.A) : OpR X (compareOp .Eq) (rEqA X.K) ∧ Ok2 (cyOf X) (rEqA X.K) fEq := ⟨op_eqA hr.units, ok_eq⟩
theorem k_ne {k : Nat} (hr : Room k X.A) : OpR X (compareOp .NotEq) (rNeA X.K) ∧ Ok2 (cyOf X) (rNeA X.K) fNe := ⟨op_neA hr.units, ok_ne⟩
theorem k_in : OpR X (compareOp .In) (rIn X.K false) ∧ Ok2 (cyOf X) (rIn X.K false) (fIn false) := ⟨op_in_seq, ok_in⟩
theorem k_ni : OpR X (compareOp .NotIn) (rIn X.K true) ∧ Ok2 (cyOf X) (rIn X.K true) (fIn true) := ⟨op_notIn_seq, ok_in⟩
theorem k_is : OpR X (compareOp .Is) (fun x y H Q => y = .non ∧ Q (.bl (decide (x = .non))) H) ∧ Ok2 (cyOf X) (fun x y H Q => y = .non ∧ Q (.bl (decide (x = .non))) H) (fIsN false) := ⟨op_isN, ok_isN⟩
theorem k_isnot : OpR X (compareOp .IsNot) (fun x y H Q => y = .non ∧ Q (.bl (!decide (x = .non))) H) ∧ Ok2 (cyOf X) (fun x y H Q => y = .non ∧ Q (.bl (!decide (x = .non))) H) (fIsN true) := ⟨op_notN, ok_notN⟩
theorem x_k {op : CmpOp} {r : R2} {f : D → D → Sto → Option (D × Sto)} (h : OpR X (compareOp op) r ∧ Ok2 (cyOf X) r f) (ha : PE X a (eM (cyOf X) ma)) (hb : PE X b (eM (cyOf X) mb)) (hm : behindInMarks op b = false := by first | exact nomark _ | rfl) : PE X (.Compare a [op] [b] pos) (eM (cyOf X) (mOp f ma mb)) := x_cmp h.1 h.2 ha hb hm
theorem y_k {op : CmpOp} {r : R2} {f : D → D → Sto → Option (D × Sto)} (h : OpR X (compareOp op) r ∧ Ok2 (cyOf X) r f) (ha : PE X a (eM (cyOf X) ma)) (hb : PE X b (eM (cyOf X) mb)) (hm : behindInMarks op b = false := by first | exact nomark _ | rfl) : PT X (.Compare a [op] [b] pos) (bM (cyOf X) (mTB (mOp f ma mb))) := y_cmp h.1 h.2 ha hb hm
/-! ### truth -/
theorem y_t (ha : PE X e (eM (cyOf X) ma)) (he : ∀ whole, isTrue e X.env whole = (do let v ← whole; standAt e.pos; holding [v] (truthy v)) := by intro _; rfl) : PT X e (bM (cyOf X) (mT ma)) := PT.imp (pt_truth ha he) fun _ _ _ h => bm_tru h
theorem y_and1 (ha : PT X a (bM (cyOf X) mc)) : PW X (.BoolOp .And [a] pos) (bM (cyOf X) mc) := pw_and1 ha
theorem y_or1 (ha : PT X a (bM (cyOf X) mc)) : PW X (.BoolOp .Or [a] pos) (bM (cyOf X) mc) := pw_or1 ha
theorem y_and (ha : PT X a (bM (cyOf X) mc)) (hb : PW X (.BoolOp .And (b :: es) pos) (bM (cyOf X) md)) : PW X (.BoolOp .And (a :: b :: es) pos) (bM (cyOf X) (mAnd mc md)) := PW.imp (pw_and ha hb) fun _ _ _ => bm_and
theorem y_or (ha : PT X a (bM (cyOf X) mc)) (hb : PW X (.BoolOp .Or (b :: es) pos) (bM (cyOf X) md)) : PW X (.BoolOp .Or (a :: b :: es) pos) (bM (cyOf X) (mOr mc md)) := PW.imp (pw_or ha hb) fun _ _ _ => bm_or
theorem y_not (ha : PT X a (bM (cyOf X) mc)) : PT X (.UnaryOp .Not a pos) (bM (cyOf X) (mNot mc)) := PT.imp (pt_not ha) fun _ _ _ => bm_not
theorem x_one {op : BoolOp} (ha : PE X a (eM (cyOf X) ma)) : PE X (.BoolOp op [a] pos) (eM (cyOf X) ma) := pe_one ha
theorem x_and (ha : PE X a (eM (cyOf X) ma)) (hb : PE X (.BoolOp .And (b :: es) pos) (eM (cyOf X) mb)) : PE X (.BoolOp .And (a :: b :: es) pos) (eM (cyOf X) (mAndV ma mb)) := PE.imp (pe_and ha hb) fun _ _ _ => em_and
theorem x_or (ha : PE X a (eM (cyOf X) ma)) (hb : PE X (.BoolOp .Or (b :: es) pos) (eM (cyOf X) mb)) : PE X (.BoolOp .Or (a :: b :: es) pos) (eM (cyOf X) (mOrV ma mb)) := PE.imp (pe_or ha hb) fun _ _ _ => em_or
theorem x_not (ha : PE X a (eM (cyOf X) ma)) : PE X (.UnaryOp .Not a pos) (eM (cyOf X) (mNotV ma)) := PE.imp (pe_not ha) fun _ _ _ => em_not
theorem x_if {c : Expr} (hc : PT X c (bM (cyOf X) mc)) (ha : PE X a (eM (cyOf X) ma)) (hb : PE X b (eM (cyOf X) mb)) : PE X (.IfExp c a b pos) (eM (cyOf X) (mIf mc ma mb)) := PE.imp (pe_ifExp hc ha hb) fun _ _ _ => em_if
/-! ### arguments, displays, subscripts -/
theorem a_nil : PA X [] (aM (cyOf X) mNil) := PA.imp pa_nil fun _ _ _ => am_nil
theorem a_cons (ha : PE X e (eM (cyOf X) ma)) (hr : PA X es (aM (cyOf X) mr)) (hs : starEach (e :: es) X.env = (false, eval e X.env) :: starEach es X.env := by rfl) : PA X (e :: es) (aM (cyOf X) (mCons ma mr)) := PA.imp (pa_cons ha hr hs) fun _ _ _ => am_cons
theorem kw_nil : PK X [] (aM (cyOf X) mNil) := PK.imp pk_nil fun _ _ _ => am_nil
theorem kw_cons {nm : Option Str} {kws : List Keyword} (ha : PE X e (eM (cyOf X) ma)) (hr : PK X kws (aM (cyOf X) mr)) : PK X (⟨nm, e, pos⟩ :: kws) (aM (cyOf X) (mCons ma mr)) := PK.imp (pk_cons ha hr) fun _ _ _ => am_cons
theorem x_tup {k} (h : PA X es (aM (cyOf X) mr)) : PE X (.Tuple es k pos) (eM (cyOf X) (mTup mr)) := PE.imp (pe_tup h) fun _ _ _ => em_tup
theorem x_lst (mu : Bool) (h : PA X es (aM (cyOf X) mr)) : PE X (.List es pos) (eM (cyOf X) (mLst mu mr)) := PE.imp (pe_lst h) fun _ _ _ => em_lst
theorem x_ix (ha : PE X a (eM (cyOf X) ma)) (hb : PE X b (eM (cyOf X) mb)) (hs : PlainIx b := by exact fun _ _ => rfl) : PE X (.Subscript a b pos) (eM (cyOf X) (mOp fIx ma mb)) := PE.imp (pe_ix ix_A ha hb hs) fun _ _ _ => em_op ok_ix
theorem o_none : PO X none (oM (cyOf X) mNone) := ⟨fun pins s σ H Q I w => po_none.run pins s σ H Q I (om_none w)⟩
theorem o_some (he : PE X e (eM (cyOf X) ma)) : PO X (some e) (oM (cyOf X) (mSome ma)) := ⟨fun pins s σ H Q I w => (po_some he).run pins s σ H Q I (om_some w)⟩
theorem x_sl (mu : Bool) {lo hi : Option Expr} {ml mh : MO} (ha : PE X a (eM (cyOf X) ma)) (hl : PO X lo (oM (cyOf X) ml)) (hh : PO X hi (oM (cyOf X) mh)) : PE X (.Subscript a (.Slice lo hi none p) pos) (eM (cyOf X) (mSl mu ma ml mh)) := PE.imp (pe_slice sl_all ha hl hh) fun _ _ _ => em_sl
theorem x_rev (mu : Bool) {k : Nat} {p1 p2 p3 : Pos} (ha : PE X a (eM (cyOf X) ma)) : PE X (.Subscript a (.Slice none none (some (.UnaryOp .USub (.Constant (.int 1) k p1) p2)) p3) pos) (eM (cyOf X) (mRev mu ma)) := PE.imp (pe_revL ha) fun _ _ _ => em_rev
/-! ### built-ins, methods -/
theorem x_cb {id : String} {r : List V → Hp → VK → Prop} {f : List D → Sto → Option (D × Sto)} (h : CallR X (.builtin id) r ∧ OkC (cyOf X) r f) (hg : Gl X x) (hm : X.mg x = none) (hv : bootBuiltins x = some (.builtin id)) (ha : PA X (e :: es) (aM (cyOf X) mr)) (hn : x ≠ "__name__" := by decide) (hdb : (x == ("__debug__" : Str)) = false := by decide)
    (he : starEach (e :: es) X.env = (false, eval e X.env) :: starEach es X.env := by rfl) (hpl : (backTo pos (starEach es X.env)).any (·.1) = false := by rfl) : PE X (.Call (.Name x p) (e :: es) [] pos) (eM (cyOf X) (mCb f mr)) := PE.imp (pe_callB h.1 hg hm hv ha hn hdb he hpl) fun _ _ _ => em_cb h.2
theorem x_ct {id : String} {r : List V → Hp → VK → Prop} {f : List D → Sto → Option (D × Sto)} (h : CallR X (.type id) r ∧ OkC (cyOf X) r f) (hg : Gl X x) (hm : X.mg x = none) (hv : bootBuiltins x = some (.type id)) (ha : PA X (e :: es) (aM (cyOf X) mr)) (hn : x ≠ "__name__" := by decide) (hdb : (x == ("__debug__" : Str)) = false := by decide)
    (he : starEach (e :: es) X.env = (false, eval e X.env) :: starEach es X.env := by rfl) (hpl : (backTo pos (starEach es X.env)).any (·.1) = false := by rfl) : PE X (.Call (.Name x p) (e :: es) [] pos) (eM (cyOf X) (mCb f mr)) := PE.imp (pe_callTy h.1 hg hm hv ha hn hdb he hpl) fun _ _ _ => em_cb h.2
theorem x_cf {id : String} {r : List V → Hp → VK → Prop} {f : List D → Sto → Option (D × Sto)} (h : CallR X (.builtin id) r ∧ OkC (cyOf X) r f) (hg : Gl X x) (hm : X.mg x = some (.builtin id)) (ha : PA X (e :: es) (aM (cyOf X) mr)) (hdb : (x == ("__debug__" : Str)) = false := by decide)
    (he : starEach (e :: es) X.env = (false, eval e X.env) :: starEach es X.env := by rfl) (hpl : (backTo pos (starEach es X.env)).any (·.1) = false := by rfl) : PE X (.Call (.Name x p) (e :: es) [] pos) (eM (cyOf X) (mCb f mr)) := PE.imp (pe_callBfun h.1 hg hm ha hdb he hpl) fun _ _ _ => em_cb h.2
theorem c_len : CallR X (.builtin "len") (rLenA X.K) ∧ OkC (cyOf X) (rLenA X.K) fLen := ⟨call_lenA, ok_len⟩
theorem c_abs : CallR X (.builtin "abs") (fun xs H Q => ∃ i, xs = [.int i] ∧ Q (.int (if i < 0 then -i else i)) H) ∧ OkC (cyOf X) (fun xs H Q => ∃ i, xs = [.int i] ∧ Q (.int (if i < 0 then -i else i)) H) fAbs := ⟨call_abs, ok_abs⟩
theorem c_max (hc : X.calm = true := by rfl) : CallR X (.builtin "max") (rMaxA X.K) ∧ OkC (cyOf X) (rMaxA X.K) fMaxL := ⟨call_maxA hc, ok_max⟩
theorem c_min (hc : X.calm = true := by rfl) : CallR X (.builtin "min") (rMinA X.K) ∧ OkC (cyOf X) (rMinA X.K) fMinL := ⟨call_minA hc, ok_min⟩
theorem c_sorted (mu : Bool) : CallR X (.builtin "sorted") (rSortedI X.K) ∧ OkC (cyOf X) (rSortedI X.K) (fSorted mu) := ⟨cr_sortedI, ok_sorted⟩
theorem c_sum (hc : X.calm = true := by rfl) : CallR X (.builtin "sum") (rSum X.K) ∧ OkC (cyOf X) (rSum X.K) fSum := ⟨cr_sum hc, ok_sum⟩
theorem c_all (hc : X.calm = true := by rfl) : CallR X (.builtin "all") (rAll X.K) ∧ OkC (cyOf X) (rAll X.K) fAll := ⟨cr_all hc, ok_all⟩
theorem c_any (hc : X.calm = true := by rfl) : CallR X (.builtin "any") (rAny X.K) ∧ OkC (cyOf X) (rAny X.K) fAny := ⟨cr_any hc, ok_any⟩
theorem c_isi : CallR X (.builtin "isinstance") (rIsi X.K) ∧ OkC (cyOf X) (rIsi X.K) fIsi := ⟨call_isi, ok_isi⟩
theorem c_gcd : CallR X (.builtin "math.gcd") rGcd ∧ OkC (cyOf X) rGcd fGcd := ⟨cr_gcd, ok_gcd⟩
theorem c_int : CallR X (.type "int") (fun xs H Q => (∃ i, xs = [.int i] ∧ Q (.int i) H) ∨ ∃ k, xs = [.bl k] ∧ Q (.int (if k then 1 else 0)) H) ∧ OkC (cyOf X) (fun xs H Q => (∃ i, xs = [.int i] ∧ Q (.int i) H) ∨ ∃ k, xs = [.bl k] ∧ Q (.int (if k then 1 else 0)) H) fInt := ⟨call_int1, ok_int⟩
theorem c_tuple : CallR X (.type "tuple") (fun xs H Q => ∃ p ys, xs = [.ref p] ∧ ((SqL X.K H p ys ∧ ∀ l, H l = none → Q (.ref l) (upd H l (.tup ys))) ∨ (SqT X.K H p ys ∧ Q (.ref p) H))) ∧ OkC (cyOf X) (fun xs H Q => ∃ p ys, xs = [.ref p] ∧ ((SqL X.K H p ys ∧ ∀ l, H l = none → Q (.ref l) (upd H l (.tup ys))) ∨ (SqT X.K H p ys ∧ Q (.ref p) H))) fTuple := ⟨call_tuple_of, ok_tuple⟩
theorem c_list (mu : Bool) : CallR X (.type "list") (fun xs H Q => ∃ p ys, xs = [.ref p] ∧ (SqL X.K H p ys ∨ SqT X.K H p ys) ∧ ∀ l, H l = none → Q (.ref l) (upd H l (.lst ys))) ∧ OkC (cyOf X) (fun xs H Q => ∃ p ys, xs = [.ref p] ∧ (SqL X.K H p ys ∨ SqT X.K H p ys) ∧ ∀ l, H l = none → Q (.ref l) (upd H l (.lst ys))) (fList mu) := ⟨call_list_of, ok_list⟩
theorem x_append {apos cpos : Pos} {o e : Expr} {mo : ME} (ho : PE X o (eM (cyOf X) mo)) (ha : PA X [e] (aM (cyOf X) mr)) (hbase : attributeBase o "append" X.env (eval o X.env) = eval o X.env := by rfl)
    (hfew : ((backTo cpos (starEach [e] X.env)).all (fun x => !x.1) && (backToKw cpos (keywordEach [] X.env)).all (fun x => x.1.isSome) && decide ([e].length + ([] : List Keyword).length + (if ([] : List Keyword).isEmpty then 0 else 1) < 30)) = true := by rfl)
    (hline : (apos.endLine == cpos.line) = true := by rfl) (hs : starEach [e] X.env = (false, eval e X.env) :: starEach [] X.env := by rfl) (hplain : (backTo cpos (starEach [] X.env)).any (·.1) = false := by rfl) :
    PE X (.Call (.Attribute o "append" apos) [e] [] cpos) (eM (cyOf X) (mMt fAppend mo mr)) := PE.imp (pe_bm PySem.F.plainAttrs_list PySem.F.slot_list_append PySem.F.type_list_append mt_append ho ha hbase hfew hline hs hplain) fun _ _ _ => em_mt ok_append
theorem x_extend {apos cpos : Pos} {o e : Expr} {mo : ME} (ho : PE X o (eM (cyOf X) mo)) (ha : PA X [e] (aM (cyOf X) mr)) (hbase : attributeBase o "extend" X.env (eval o X.env) = eval o X.env := by rfl)
    (hfew : ((backTo cpos (starEach [e] X.env)).all (fun x => !x.1) && (backToKw cpos (keywordEach [] X.env)).all (fun x => x.1.isSome) && decide ([e].length + ([] : List Keyword).length + (if ([] : List Keyword).isEmpty then 0 else 1) < 30)) = true := by rfl)
    (hline : (apos.endLine == cpos.line) = true := by rfl) (hs : starEach [e] X.env = (false, eval e X.env) :: starEach [] X.env := by rfl) (hplain : (backTo cpos (starEach [] X.env)).any (·.1) = false := by rfl) :
    PE X (.Call (.Attribute o "extend" apos) [e] [] cpos) (eM (cyOf X) (mMt fExtend mo mr)) := PE.imp (pe_bm PySem.F.plainAttrs_list PySem.F.slot_list_extend PySem.F.type_list_extend mt_extend ho ha hbase hfew hline hs hplain) fun _ _ _ => em_mt ok_extend
theorem x_popi {apos cpos : Pos} {o e : Expr} {mo : ME} (ho : PE X o (eM (cyOf X) mo)) (ha : PA X [e] (aM (cyOf X) mr)) (hbase : attributeBase o "pop" X.env (eval o X.env) = eval o X.env := by rfl)
    (hfew : ((backTo cpos (starEach [e] X.env)).all (fun x => !x.1) && (backToKw cpos (keywordEach [] X.env)).all (fun x => x.1.isSome) && decide ([e].length + ([] : List Keyword).length + (if ([] : List Keyword).isEmpty then 0 else 1) < 30)) = true := by rfl)
    (hline : (apos.endLine == cpos.line) = true := by rfl) (hs : starEach [e] X.env = (false, eval e X.env) :: starEach [] X.env := by rfl) (hplain : (backTo cpos (starEach [] X.env)).any (·.1) = false := by rfl) :
    PE X (.Call (.Attribute o "pop" apos) [e] [] cpos) (eM (cyOf X) (mMt fPop mo mr)) := PE.imp (pe_bm PySem.F.plainAttrs_list PySem.F.slot_list_pop PySem.F.type_list_pop mt_popA ho ha hbase hfew hline hs hplain) fun _ _ _ => em_mt ok_pop
theorem x_pop {apos cpos : Pos} {o : Expr} {mo : ME} (ho : PE X o (eM (cyOf X) mo)) (hbase : attributeBase o "pop" X.env (eval o X.env) = eval o X.env := by rfl) (hline : (apos.endLine == cpos.line) = true := by rfl) :
    PE X (.Call (.Attribute o "pop" apos) [] [] cpos) (eM (cyOf X) (mMt fPop mo mNil)) := PE.imp (pe_bm0 PySem.F.plainAttrs_list PySem.F.slot_list_pop PySem.F.type_list_pop mt_popA ho hbase hline) fun _ _ _ => em_mt0 ok_pop
theorem x_frz (ha : PE X e (eM (cyOf X) ma)) : PE X e (eM (cyOf X) (mFrz ma)) := PE.imp ha fun _ _ _ => em_frz
/-! ### iterables, comprehensions -/
theorem i_seq {tg : Expr} (ha : PE X e (eM (cyOf X) ma)) : PI X tg e (iM (cyOf X) (miSeq ma)) := PI.imp (pi_seq ha) fun _ _ _ => im_seq
theorem i_rng1 {tg : Expr} (hg : Gl X "range") (hm : X.mg "range" = none) (ha : PA X [a] (aM (cyOf X) mr)) (hs : starEach [a] X.env = [(false, eval a X.env)] := by rfl) : PI X tg (.Call (.Name "range" p) [a] [] pos) (iM (cyOf X) (miRng1 mr)) := PI.imp (pi_range1 hg hm ha hs) fun _ _ _ => im_rng1
theorem i_rng2 {tg : Expr} (hg : Gl X "range") (hm : X.mg "range" = none) (ha : PA X [a, b] (aM (cyOf X) mr)) (hs : starEach [a, b] X.env = [(false, eval a X.env), (false, eval b X.env)] := by rfl) (hs2 : starEach [b] X.env = [(false, eval b X.env)] := by rfl) :
    PI X tg (.Call (.Name "range" p) [a, b] [] pos) (iM (cyOf X) (miRng2 mr)) := PI.imp (pi_range2 hg hm ha hs hs2) fun _ _ _ => im_rng2
/-! ### targets -/
theorem t_name (i : Nat) (hN : X.N.Nodup) (hi : X.N[i]? = some x) (hx : Loc X.env.scope x) (hf : X.fn x = true ∨ X.env.scope.names.lookup x = some .local := by first | exact .inl rfl | exact .inr rfl | assumption) : PG X (.Name x pos) (tgM (cyOf X) (.name i)) := PG.imp (pg_name hN hi hx hf) fun _ _ _ _ => tg_name
theorem ts_nil : PGs X [] (tgsM (cyOf X) []) := PGs.imp pgs_nil fun _ _ _ _ => tgs_nil
theorem ts_cons {t : Tg} {ts : List Tg} (h1 : PG X e (tgM (cyOf X) t)) (h2 : PGs X es (tgsM (cyOf X) ts)) (hs : (assignEach (e :: es) X.env).map (·.2) = assign e X.env :: (assignEach es X.env).map (·.2) := by rfl) : PGs X (e :: es) (tgsM (cyOf X) (t :: ts)) := PGs.imp (pgs_cons h1 h2 hs) fun _ _ _ _ => tgs_cons
theorem t_tup {k : Nat} {ts : List Tg} (hc : X.calm = true) (h : PGs X es (tgsM (cyOf X) ts)) (hn : (assignEach es X.env).length = ts.length := by rfl) (hst : (assignEach es X.env).findIdx? (·.1) = none := by rfl) : PG X (.Tuple es k pos) (tgM (cyOf X) (.tup ts)) := PG.imp (pg_tup hc h hn hst) fun _ _ _ _ => tg_tup
theorem g_T {T : Tg} (h : PG X e (tgM (cyOf X) T)) : PG X e (gM (cyOf X) (mgT T)) := PG.imp h fun _ _ _ _ => gm_T
theorem g_nil : PGs X [] (gsM (cyOf X) mgNil) := PGs.imp pgs_nil fun _ _ _ _ => gs_nil
theorem g_cons {t : MG} {ts : MGs} (h1 : PG X e (gM (cyOf X) t)) (h2 : PGs X es (gsM (cyOf X) ts)) (hs : (assignEach (e :: es) X.env).map (·.2) = assign e X.env :: (assignEach es X.env).map (·.2) := by rfl) : PGs X (e :: es) (gsM (cyOf X) (mgCons t ts)) := PGs.imp (pgs_cons h1 h2 hs) fun _ _ _ _ => gs_cons
theorem g_tup {k n : Nat} {ts : MGs} (hc : X.calm = true) (h : PGs X es (gsM (cyOf X) ts)) (hn : (assignEach es X.env).length = n := by rfl) (hst : (assignEach es X.env).findIdx? (·.1) = none := by rfl) : PG X (.Tuple es k pos) (gM (cyOf X) (mgTup n ts)) := PG.imp (pg_tup hc h hn hst) fun _ _ _ _ => gm_tup
theorem g_sub (ho : PE X a (eM (cyOf X) ma)) (hi : PE X b (eM (cyOf X) mb)) (ha : ∀ v, assign (.Subscript a b pos) X.env v = (do
      let ov ← holding [v] (eval a X.env)
      let iv ← holding [v, ov] (eval b X.env)
      standAt pos
      holding [v, ov, iv] (setItem ov iv v)
      release [v, ov, iv] []) := by intro _; rfl) : PG X (.Subscript a b pos) (gM (cyOf X) (mgSub ma mb fSetL)) := PG.imp (pg_sub ho hi set_list ha) fun _ _ _ _ => gm_sub ok_setL
end
section
variable {X : Cx} {tg e : Expr} {ifs : List Expr} {scope : Scope} {own : List (Str × Nat)} {pos : Pos} {mi : MI} {T : Tg} {tt : MB} {te : ME}
theorem cs_nil : PTs X [] (bM (cyOf X) mYes) := ⟨fun pins s σ H Q I w => pts_nil.run pins s σ H Q I (bm_yes w)⟩
theorem cs_one {c : Expr} {mc : MB} (h : PT X c (bM (cyOf X) mc)) : PTs X [c] (bM (cyOf X) mc) := pts_one h
theorem x_lc (mu : Bool) {elt iter : Expr} (hc : X.calm = true) (hN : X.N.Nodup) (hi : PI X tg iter (iM (cyOf X) mi)) (ok : BlkOk X.N X.env.scope scope own) (hsl : (T.slots.all fun i => (own.map (·.2)).contains i) = true)
    (hg : ∀ (s : Shared) (H : Hp) (C : Addr) (cl : List (Str × Addr)) (fp : List Addr), PG (X.blk s H scope (compEnvC scope cl C X.env) fp) tg (tgM (cyOf X) T)) (ht : ∀ (s : Shared) (H : Hp) (C : Addr) (cl : List (Str × Addr)) (fp : List Addr), PTs (X.blk s H scope (compEnvC scope cl C X.env) fp) ifs (bM (cyOf X) tt))
    (he : ∀ (s : Shared) (H : Hp) (C : Addr) (cl : List (Str × Addr)) (fp : List Addr), PE (X.blk s H scope (compEnvC scope cl C X.env) fp) elt (eM (cyOf X) te)) (hs : ∀ x, foldedSetIterable iter X.env x = pure x := by intro _; rfl) :
    PE X (.ListComp elt [⟨tg, iter, ifs, 0⟩] scope pos) (eM (cyOf X) (mLc mu mi T tt te (own.map (·.2)))) := PE.imp (pe_lc hc hN hi ok hg ht he hs) fun _ _ _ => em_lc fun i hi => by
    have h := List.all_eq_true.mp hsl i hi
    exact List.contains_iff_mem.mp h
theorem x_setLc (mu : Bool) {elt iter : Expr} {i : Nat} {y : Str} {py spos : Pos} (hc : X.calm = true) (hN : X.N.Nodup) (hy : X.N[i]? = some y) (hyl : X.env.scope.names.lookup y = some .local)
    (hsw : swapsWith (.ListComp elt [⟨tg, iter, ifs, 0⟩] scope pos) (some (.Name y py)) spos.line X.env = pure true) (hi : PI X tg iter (iM (cyOf X) mi)) (ok : BlkOk X.N X.env.scope scope own) (hsl : (T.slots.all fun i => (own.map (·.2)).contains i) = true)
    (hg : ∀ (s : Shared) (H : Hp) (C : Addr) (cl : List (Str × Addr)) (fp : List Addr), PG (X.blk s H scope (compEnvC scope cl C X.env) fp) tg (tgM (cyOf X) T)) (ht : ∀ (s : Shared) (H : Hp) (C : Addr) (cl : List (Str × Addr)) (fp : List Addr), PTs (X.blk s H scope (compEnvC scope cl C X.env) fp) ifs (bM (cyOf X) tt))
    (he : ∀ (s : Shared) (H : Hp) (C : Addr) (cl : List (Str × Addr)) (fp : List Addr), PE (X.blk s H scope (compEnvC scope cl C X.env) fp) elt (eM (cyOf X) te)) (hs : ∀ x, foldedSetIterable iter X.env x = pure x := by intro _; rfl) :
    PS X (.Assign [.Name y py] (.ListComp elt [⟨tg, iter, ifs, 0⟩] scope pos) spos) (sM (cyOf X) (mAsg (mLc mu mi T tt te (own.map (·.2))) (mgName i))) := PS.imp (ps_setLc hc hN hy hyl hsw hi ok hg ht he hs) fun N σ H h => by
    obtain ⟨H0, as, en, st, o, st', e, w, hm, k⟩ := sm_asg h
    refine em_lc (fun i hi => by
      have h := List.all_eq_true.mp hsl i hi
      exact List.contains_iff_mem.mp h) ⟨H0, as, en, st, o, st', e, w, hm, fun v H' as' H'' l w r => ?_⟩
    exact gm_name (k v H' as' H'' l w r)
end
/-! ### statements -/
section
variable {X : Cx} {st : Stmt} {rest body sa sb : List Stmt} {m1 m2 : MS} {e c : Expr} {me : ME} {mc : MB} {pos : Pos}
theorem z_nil : PSs X [] (sM (cyOf X) mNext) := PSs.imp pss_nil fun _ _ _ => sm_next
theorem z_cons (h1 : PS X st (sM (cyOf X) m1)) (h2 : PSs X rest (sM (cyOf X) m2)) : PSs X (st :: rest) (sM (cyOf X) (mSeq m1 m2)) := PSs.imp (pss_cons h1 h2) fun _ _ _ => sm_seq
theorem z_one (h1 : PS X st (sM (cyOf X) m1)) : PSs X [st] (sM (cyOf X) m1) := pss_one h1
theorem z_pass : PS X (.Pass pos) (sM (cyOf X) mNext) := PS.imp ps_pass fun _ _ _ => sm_next
theorem z_break : PS X (.Break pos) (sM (cyOf X) mBreak) := PS.imp ps_break fun _ _ _ => sm_break
theorem z_cont : PS X (.Continue pos) (sM (cyOf X) mCont) := PS.imp ps_continue fun _ _ _ => sm_cont
theorem z_never : PS X st (sM (cyOf X) mNever) := PS.imp ps_never fun _ _ _ => sm_never
theorem z_expr (he : PE X e (eM (cyOf X) me)) (hs : swapsWith e none pos.line X.env = pure false := by rfl) : PS X (.Expr e pos) (sM (cyOf X) (mDrop me)) := PS.imp (ps_expr he hs) fun _ _ _ => sm_drop
theorem z_ret (he : PE X e (eM (cyOf X) me)) : PS X (.Return (some e) pos) (sM (cyOf X) (mRet me)) := PS.imp (ps_ret he) fun _ _ _ => sm_ret
theorem z_retN : PS X (.Return none pos) (sM (cyOf X) mRetN) := PS.imp ps_retN fun _ _ _ => sm_retN
theorem z_if (hc : PT X c (bM (cyOf X) mc)) (ha : PSs X sa (sM (cyOf X) m1)) (hb : PSs X sb (sM (cyOf X) m2)) : PS X (.If c sa sb pos) (sM (cyOf X) (mIfS mc m1 m2)) := PS.imp (ps_if hc ha hb) fun _ _ _ => sm_if
theorem z_set {x : Str} {pos' : Pos} (i : Nat) (hN : X.N.Nodup) (hi : X.N[i]? = some x) (hx : Loc X.env.scope x) (he : PE X e (eM (cyOf X) me)) (hs : swapsWith e (some (.Name x pos')) pos.line X.env = pure false := by rfl) (hf : X.fn x = true ∨ X.env.scope.names.lookup x = some .local := by first | exact .inl rfl | exact .inr rfl | assumption) :
    PS X (.Assign [.Name x pos'] e pos) (sM (cyOf X) (mAsg me (mgName i))) := PS.imp (ps_set hN hi hx he hs hf) fun N σ H h => by
    obtain ⟨H0, as, en, st, o, st', e, w, hm, k⟩ := sm_asg h
    exact ⟨H0, as, en, st, o, st', e, w, hm, fun v H' as' H'' l w r => gm_name (k v H' as' H'' l w r)⟩
theorem z_asg {tg : Expr} {g : MG} (he : PE X e (eM (cyOf X) me)) (hg : PG X tg (gM (cyOf X) g)) (hs : swapsWithSole [tg] e pos.line X.env = pure false := by rfl) (hw : swappedStores [tg] e X.env = pure none := by rfl)
    (h1 : (assignEach [tg] X.env).map (·.2) = [assign tg X.env] := by rfl) : PS X (.Assign [tg] e pos) (sM (cyOf X) (mAsg me g)) := PS.imp (ps_asg he hg hs hw h1) fun _ _ _ => sm_asg
theorem z_par (i j : Nat) {x y : Str} {a b : Expr} {mr : MA} {px py pt : Pos} {kt k2 pt2} (hc : X.calm = true) (hN : X.N.Nodup) (hi : X.N[i]? = some x) (hj : X.N[j]? = some y) (hij : i ≠ j)
    (hx : X.env.scope.names.lookup x = some .local) (hy : X.env.scope.names.lookup y = some .local) (ha : PA X [a, b] (aM (cyOf X) mr))
    (hw : swappedStores [.Tuple [.Name x px, .Name y py] kt pt] (.Tuple [a, b] k2 pt2) X.env = pure (some [x, y]) := by rfl)
    (hs : swapsWithSole [.Tuple [.Name x px, .Name y py] kt pt] (.Tuple [a, b] k2 pt2) pos.line X.env = pure false := by rfl) :
    PS X (.Assign [.Tuple [.Name x px, .Name y py] kt pt] (.Tuple [a, b] k2 pt2) pos) (sM (cyOf X) (mPar i j mr)) := PS.imp (ps_par hc hN hi hj hij hx hy ha hw hs) fun _ _ _ => sm_par
theorem z_aug {x : Str} {pos' : Pos} {op : Operator} {t : TIp} {f : D → D → Sto → Option (D × Sto)} (i : Nat) (hN : X.N.Nodup) (hi : X.N[i]? = some x) (hx : Loc X.env.scope x) (h : PIp X op t ∧ Ok2 (cyOf X) t f) (he : PE X e (eM (cyOf X) me)) (hf : X.fn x = true ∨ X.env.scope.names.lookup x = some .local := by first | exact .inl rfl | exact .inr rfl | assumption) :
    PS X (.AugAssign (.Name x pos') op e pos) (sM (cyOf X) (mAug i me f)) := PS.imp (ps_aug hN hi hx he h.1 hf) fun _ _ _ => sm_aug h.2
theorem ip_addM : PIp X .Add (ipI fun i j => i + j) ∧ Ok2 (cyOf X) (ipI fun i j => i + j) (fI (fun _ _ => true) fun i j => i + j) := ⟨ip_add, fun H0 as st H dx dy x y d st' Q w rx ry hf k => by
  obtain ⟨i, j, e1, e2, _, q⟩ := ok_fI (C := cyOf X) (P := fun _ _ => True) (fun _ _ _ => trivial) H0 as st H dx dy x y d st' Q w rx ry hf k
  exact ⟨i, j, e1, e2, q⟩⟩
theorem ip_subM : PIp X .Sub (ipI fun i j => i - j) ∧ Ok2 (cyOf X) (ipI fun i j => i - j) (fI (fun _ _ => true) fun i j => i - j) := ⟨ip_sub, fun H0 as st H dx dy x y d st' Q w rx ry hf k => by
  obtain ⟨i, j, e1, e2, _, q⟩ := ok_fI (C := cyOf X) (P := fun _ _ => True) (fun _ _ _ => trivial) H0 as st H dx dy x y d st' Q w rx ry hf k
  exact ⟨i, j, e1, e2, q⟩⟩
theorem z_while (hp : PassesOwn (model X.prog X.w) X.A X.env X.xe) (hc : PT X c (bM (cyOf X) mc)) (hb : PSs X body (sM (cyOf X) m1)) : PS X (.While c body [] pos) (sM (cyOf X) (mWh mc m1)) := PS.imp (ps_while hp hc hb) fun _ _ _ => sm_while
theorem z_for {tg iter : Expr} {mi : MI} {T : Tg} (hp : PassesOwn (model X.prog X.w) X.A X.env X.xe) (hc : X.calm = true) (hi : PI X tg iter (iM (cyOf X) mi)) (hg : PG X tg (tgM (cyOf X) T)) (hb : PSs X body (sM (cyOf X) m1))
    (hs : ∀ x, foldedSetIterable iter X.env x = pure x := by intro _; rfl) : PS X (.For tg iter body [] pos) (sM (cyOf X) (mFor mi T m1)) := PS.imp (ps_for hp hc hi hg hb hs) fun _ _ _ => sm_for
end
end My
namespace My
open PySem
/-- a def's text by places -/
def stmtAt (l : List Stmt) (i : Nat) : Stmt := l.getD i (.Pass ⟨0, 0, 0, 0⟩)
def bodyOf : Stmt → List Stmt
  | .For _ _ b _ _ => b
  | .While _ b _ _ => b
  | .If _ b _ _ => b
  | _ => []
def elseOf : Stmt → List Stmt
  | .If _ _ b _ => b
  | _ => []
end My


namespace My
open PySem PySem.Spec PyProof.Rows L2

/-! ### dicts whose keys are ints and texts -/
def keyOf : D → Option Key
  | .int i => some (.inl i)
  | .str x => some (.inr x)
  | _ => none
def keyD : Key → D
  | .inl i => .int i
  | .inr x => .str x
def valD (kvs : List (Key × D)) (k : Key) : Option D := (kvs.find? fun kv => decide (kv.1 = k)).map (·.2)
def putD (kvs : List (Key × D)) (k : Key) (d : D) : List (Key × D) :=
  if (kvs.any fun kv => decide (kv.1 = k)) = true then kvs.map (fun kv => if kv.1 = k then (kv.1, d) else kv) else kvs ++ [(k, d)]
section
variable {C : Cy} {H : Hb} {as : List Addr}
theorem rep_key {d : D} {k : Key} {v : V} (h : keyOf d = some k) (r : Rep C H as d v) : v = kV k := by
  cases d with
  | int i => cases h; exact r
  | str i => cases h; exact r
  | _ => cases h
theorem rep_keyD : ∀ k : Key, Rep C H as (keyD k) (kV k)
  | .inl _ => rfl
  | .inr _ => rfl
theorem RepKV.val : ∀ {kvs : List (Key × D)} {vs : List (Key × V)} (k : Key), RepKV C H as kvs vs → (valV vs k).isSome = (valD kvs k).isSome ∧ ∀ d, valD kvs k = some d → ∃ v, valV vs k = some v ∧ Rep C H as d v
  | [], _, k, h => by
    have h : _ = [] := h
    subst h
    exact ⟨rfl, fun d e => by cases e⟩
  | (j, d) :: kvs, _, k, h => by
    obtain ⟨v, r, rfl, h1, h2⟩ := h
    by_cases e : j = k
    · rw [valV_pos (p := (j, v)) e]
      unfold valD
      rw [List.find?_cons_of_pos (by simpa using e)]
      exact ⟨rfl, fun d' e' => by cases e'; exact ⟨v, rfl, h1⟩⟩
    · rw [valV_neg (p := (j, v)) e]
      have := RepKV.val k h2
      unfold valD at this ⊢
      rw [List.find?_cons_of_neg (by simpa using e)]
      exact this
theorem RepKV.any : ∀ {kvs : List (Key × D)} {vs : List (Key × V)} (k : Key), RepKV C H as kvs vs → (vs.any fun kv => decide (kv.1 = k)) = (kvs.any fun kv => decide (kv.1 = k))
  | [], _, k, h => by
    have h : _ = [] := h
    subst h
    rfl
  | (j, d) :: kvs, _, k, h => by
    obtain ⟨v, r, rfl, h1, h2⟩ := h
    rw [List.any_cons, List.any_cons, RepKV.any k h2]
theorem RepKV.mapPut {d : D} {v : V} (k : Key) (hr : Rep C H as d v) : ∀ {kvs : List (Key × D)} {vs : List (Key × V)}, RepKV C H as kvs vs → RepKV C H as (kvs.map fun kv => if kv.1 = k then (kv.1, d) else kv) (vs.map fun kv => if kv.1 = k then (kv.1, v) else kv)
  | [], _, h => by
    have h : _ = [] := h
    subst h
    rfl
  | (j, d') :: kvs, _, h => by
    obtain ⟨v', r, rfl, h1, h2⟩ := h
    rw [List.map_cons, List.map_cons]
    by_cases e : j = k
    · simp only [if_pos e]
      exact ⟨v, _, rfl, hr, RepKV.mapPut k hr h2⟩
    · simp only [if_neg e]
      exact ⟨v', _, rfl, h1, RepKV.mapPut k hr h2⟩
theorem RepKV.snoc {d : D} {v : V} (k : Key) (hr : Rep C H as d v) : ∀ {kvs : List (Key × D)} {vs : List (Key × V)}, RepKV C H as kvs vs → RepKV C H as (kvs ++ [(k, d)]) (vs ++ [(k, v)])
  | [], _, h => by
    have h : _ = [] := h
    subst h
    exact ⟨v, [], rfl, hr, rfl⟩
  | (j, d') :: kvs, _, h => by
    obtain ⟨v', r, rfl, h1, h2⟩ := h
    exact ⟨v', r ++ [(k, v)], rfl, h1, RepKV.snoc k hr h2⟩
theorem RepKV.put {d : D} {v : V} (k : Key) (hr : Rep C H as d v) {kvs : List (Key × D)} {vs : List (Key × V)} (h : RepKV C H as kvs vs) : RepKV C H as (putD kvs k d) (putK vs k v) := by
  unfold putD putK
  rw [h.any k]
  split
  · exact h.mapPut k hr
  · exact h.snoc k hr
theorem RepKV.length : ∀ {kvs : List (Key × D)} {vs : List (Key × V)}, RepKV C H as kvs vs → kvs.length = vs.length
  | [], _, h => by
    have h : _ = [] := h
    subst h
    rfl
  | (j, d) :: kvs, _, h => by
    obtain ⟨v, r, rfl, h1, h2⟩ := h
    simp [RepKV.length h2]
theorem RepKV.keys : ∀ {kvs : List (Key × D)} {vs : List (Key × V)}, RepKV C H as kvs vs → Reps C H as (kvs.map fun kv => keyD kv.1) (vs.map fun kv => kV kv.1)
  | [], _, h => by
    have h : _ = [] := h
    subst h
    rfl
  | (j, d) :: kvs, _, h => by
    obtain ⟨v, r, rfl, h1, h2⟩ := h
    exact ⟨kV j, _, rfl, rep_keyD j, RepKV.keys h2⟩
end
section
variable {C : Cy} {H0 : Hb} {H : Hp} {as : List Addr} {st st' : Sto}
theorem WR.dk (w : WR C H0 as st H) {n : Nat} {kvs : List (Key × D)} (h : st[n]? = some (.dK kvs)) : ∃ a vs, as[n]? = some a ∧ H0.h a = none ∧ H a = some (.dK vs) ∧ RepKV C H0 as kvs vs := by
  have hl : n < as.length := by rw [w.len]; exact (List.getElem?_eq_some_iff.mp h).1
  rcases w.own n _ _ (List.getElem?_eq_getElem hl) h with z | ⟨z, ho, h1, vs, rfl, h2⟩
  · cases z
  · exact ⟨as[n], vs, List.getElem?_eq_getElem hl, z, h1, h2⟩
end
def lookK (d : D) (st : Sto) : Option (List (Key × D)) := match d with
  | .loc n => match st[n]? with
    | some (.dK kvs) => some kvs
    | _ => none
  | _ => none
theorem lookK_ok {C : Cy} {H0 : Hb} {H : Hp} {as : List Addr} {st : Sto} {d : D} {x : V} {kvs : List (Key × D)} (w : WR C H0 as st H) (r : Rep C H0 as d x) (h : lookK d st = some kvs) : ∃ n a vs, d = .loc n ∧ st[n]? = some (.dK kvs) ∧ as[n]? = some a ∧ x = .ref a ∧ H0.h a = none ∧ H a = some (.dK vs) ∧ RepKV C H0 as kvs vs := by
  cases d with
  | loc n =>
    unfold lookK at h
    dsimp only at h
    split at h
    · rename_i he
      cases h
      obtain ⟨a, vs, h1, h2, h3, h4⟩ := w.dk he
      obtain ⟨a', ha', e⟩ := r
      rw [h1] at ha'
      cases ha'
      exact ⟨n, a, vs, rfl, he, h1, e, h2, h3, h4⟩
    · cases h
  | _ => cases h
/-- to be read: a dict of the store, or one that a loop goes through -/
def lookR (d : D) (st : Sto) : Option (List (Key × D)) := match d with
  | .fdk _ ks ds => some (ks.zip ds)
  | d => lookK d st
theorem RepKV.zip {C : Cy} {H : Hb} {as : List Addr} : ∀ {ks : List Key} {ds : List D} {vs : List V}, Reps C H as ds vs → RepKV C H as (ks.zip ds) (ks.zip vs)
  | [], _, _, _ => rfl
  | k :: ks, [], vs, h => by
    have h : vs = [] := h
    subst h
    rfl
  | k :: ks, d :: ds, vs, h => by
    obtain ⟨v, r, rfl, h1, h2⟩ := h
    exact ⟨v, _, rfl, h1, RepKV.zip h2⟩
theorem lookR_ok {C : Cy} {H0 : Hb} {H : Hp} {as : List Addr} {st : Sto} {d : D} {x : V} {kvs : List (Key × D)} (w : WR C H0 as st H) (r : Rep C H0 as d x) (h : lookR d st = some kvs) : ∃ a vs, x = .ref a ∧ Rd H a (.dK vs) ∧ RepKV C H0 as kvs vs := by
  have go : lookK d st = some kvs → ∃ a vs, x = .ref a ∧ Rd H a (.dK vs) ∧ RepKV C H0 as kvs vs := fun h => by
    obtain ⟨n, a, vs, _, _, _, e, _, h1, h2⟩ := lookK_ok w r h
    exact ⟨a, vs, e, .inl h1, h2⟩
  cases d with
  | fdk n ks ds =>
    cases h
    obtain ⟨a, ob, vs, ha, e, hs, hl, hr⟩ := r
    exact ⟨a, _, e, .inr ⟨ob, w.ex _ _ hs⟩, RepKV.zip hr⟩
  | _ => exact go h
/-- d[k] -/
def fGet (a b : D) (st : Sto) : Option (D × Sto) := (lookR a st).bind fun kvs => (keyOf b).bind fun k => (valD kvs k).map fun d => (d, st)
def fInK (neg : Bool) (a b : D) (st : Sto) : Option (D × Sto) := (lookR b st).bind fun kvs => (keyOf a).map fun k => (.bl (if neg then !(valD kvs k).isSome else (valD kvs k).isSome), st)
def fSetK (a b c : D) (st : Sto) : Option Sto := match a with
  | .loc n => (lookK a st).bind fun kvs => (keyOf b).bind fun k => if kvs.length < sizeLine then some (st.set n (.dK (putD kvs k c))) else none
  | _ => none
def mDNew : ME := fun _ st => some (.loc st.length, st ++ [.dK []])
def fLenK (ds : List D) (st : Sto) : Option (D × Sto) := match ds with
  | [d] => (lookR d st).map fun kvs => (.int kvs.length, st)
  | _ => none
def fListK (mu : Bool) (ds : List D) (st : Sto) : Option (D × Sto) := match ds with
  | [d] => (lookR d st).map fun kvs => alloc mu (kvs.map fun kv => keyD kv.1) st
  | _ => none
section
variable {C : Cy} {X : Cx}
def rGetK : R2 := fun x y H Q => ∃ a v, x = .ref a ∧ DGet H a y (some v) ∧ Q v H
theorem ok_getK : Ok2 C rGetK fGet := by
  intro H0 as st H dx dy x y d st' Q w rx ry hf k
  unfold fGet at hf
  obtain ⟨kvs, h1, hf⟩ := Option.bind_eq_some_iff.mp hf
  obtain ⟨key, h2, hf⟩ := Option.bind_eq_some_iff.mp hf
  obtain ⟨d', h3, e⟩ := Option.map_eq_some_iff.mp hf
  cases e
  obtain ⟨a, vs, rfl, hH, hr⟩ := lookR_ok w rx h1
  cases rep_key h2 ry
  obtain ⟨v, hv, rv⟩ := (hr.val key).2 _ h3
  exact ⟨a, v, rfl, by rw [← hv]; exact .inl ⟨vs, key, hH, rfl, rfl⟩, k.val w rv⟩
def rInK (neg : Bool) : R2 := fun y x H Q => ∃ a o, x = .ref a ∧ DGet H a y o ∧ Q (.bl (if neg then !o.isSome else o.isSome)) H
theorem op_inK (hu : X.A.units + 64 < cLine) : OpR X (compareOp .In) (rInK false) := by
  rintro pins s σ H y x u v Q I ry rx ⟨a, o, rfl, g, q⟩
  obtain rfl : v = Value.ref a := rx
  exact d_in (by omega) I g ry fun s' I' => ⟨.bl o.isSome, H, I', rfl, q⟩
theorem op_niK (hu : X.A.units + 64 < cLine) : OpR X (compareOp .NotIn) (rInK true) := by
  rintro pins s σ H y x u v Q I ry rx ⟨a, o, rfl, g, q⟩
  obtain rfl : v = Value.ref a := rx
  exact d_notIn (by omega) I g ry fun s' I' => ⟨.bl (!o.isSome), H, I', rfl, q⟩
theorem ok_inK {neg : Bool} : Ok2 C (rInK neg) (fInK neg) := by
  intro H0 as st H dx dy x y d st' Q w rx ry hf k
  unfold fInK at hf
  obtain ⟨kvs, h1, hf⟩ := Option.bind_eq_some_iff.mp hf
  obtain ⟨key, h2, e⟩ := Option.map_eq_some_iff.mp hf
  cases e
  obtain ⟨a, vs, rfl, hH, hr⟩ := lookR_ok w ry h1
  cases rep_key h2 rx
  refine ⟨a, _, rfl, .inl ⟨vs, key, hH, rfl, rfl⟩, ?_⟩
  rw [(hr.val key).1]
  exact k.val w rfl
def rSetK : TSet := fun o i v H Q => ∃ a H', o = .ref a ∧ DPut H a i v H' ∧ Q H'
theorem set_K (hu : X.A.units + 64 < cLine) : PSet X rSetK := by
  rintro pins s σ H o i v ov iv u Q I ro ri rv ⟨a, H', rfl, g, q⟩
  obtain rfl : ov = Value.ref a := ro
  exact d_setItem (by omega) I g ri rv fun s' I' => ⟨H', I', q⟩
theorem ok_setK : OkS C rSetK fSetK := by
  intro H0 as st H a b c x y z st' Q w rx ry rz hf k
  unfold fSetK at hf
  split at hf
  · obtain ⟨kvs, h1, hf⟩ := Option.bind_eq_some_iff.mp hf
    obtain ⟨key, h2, hf⟩ := Option.bind_eq_some_iff.mp hf
    split at hf
    · rename_i hl
      cases hf
      obtain ⟨n, a, vs, e, he, ha, rfl, hn, hH, hr⟩ := lookK_ok w rx h1
      cases e
      cases rep_key h2 ry
      exact ⟨a, _, rfl, DPut.k hH (by rw [← hr.length]; exact hl), k H0 as _ Le.refl (w.put ha hn ⟨_, rfl, hr.put key rz⟩)⟩
    · cases hf
  · cases hf
theorem em_dnew {σ : L2.St} {H : Hp} {Q : VK} : eM C mDNew σ H Q → tDNewK σ H Q := by
  rintro ⟨H0, as, en, st, d, st', e, w, hm, k⟩
  cases hm
  intro p hp
  obtain ⟨w', l⟩ := w.push (o := .dK []) hp ⟨[], rfl, rfl⟩
  exact k (.ref p) _ _ _ l w' ⟨p, by rw [← w.len]; simp, rfl⟩
theorem call_lenK : CallR X (.builtin "len") (fun xs H Q => ∃ a kvs, xs = [.ref a] ∧ Rd H a (.dK kvs) ∧ Q (.int (kvs.length : Nat)) H) := by
  rintro pins s σ H vs us Q I r ⟨a, kvs, rfl, h, q⟩
  rw [Vals.ref1 r]
  exact d_len I h fun t s' I' => ⟨.int (kvs.length : Nat), H, I', ⟨t, rfl⟩, q⟩
theorem ok_lenK : OkC C (fun xs H Q => ∃ a kvs, xs = [.ref a] ∧ Rd H a (.dK kvs) ∧ Q (.int (kvs.length : Nat)) H) fLenK := by
  intro H0 as st H ds vs d st' Q w r hf k
  unfold fLenK at hf
  split at hf
  · obtain ⟨kvs, h1, e⟩ := Option.map_eq_some_iff.mp hf
    cases e
    obtain ⟨v, rfl, rv⟩ := reps1 r
    obtain ⟨a, vs, rfl, hH, hr⟩ := lookR_ok w rv h1
    refine ⟨a, vs, rfl, hH, ?_⟩
    rw [← hr.length]
    exact k.val w rfl
  · cases hf
theorem ok_listK {mu : Bool} : OkC C (fun xs H Q => ∃ (a : Addr) (kvs : List (Key × V)), xs = [.ref a] ∧ Rd H a (.dK kvs) ∧ ∀ p, H p = none → Q (.ref p) (upd H p (.lst (kvs.map fun kv => kV kv.1)))) (fListK mu) := by
  intro H0 as st H ds vs d st' Q w r hf k
  unfold fListK at hf
  split at hf
  · obtain ⟨kvs, h1, e⟩ := Option.map_eq_some_iff.mp hf
    obtain ⟨v, rfl, rv⟩ := reps1 r
    obtain ⟨a, vs, rfl, hH, hr⟩ := lookR_ok w rv h1
    exact ⟨a, vs, rfl, hH, k.newA e w hr.keys⟩
  · cases hf
end
section
variable {X : Cx} {a b : Expr} {ma mb : ME} {pos : Pos}
theorem x_dget {k : Nat} (hr : Room k X.A) (ha : PE X a (eM (cyOf X) ma)) (hb : PE X b (eM (cyOf X) mb)) (hs : PlainIx b := by exact fun _ _ => rfl) : PE X (.Subscript a b pos) (eM (cyOf X) (mOp fGet ma mb)) :=
  PE.imp (pe_dget (by have := hr.units; omega) ha hb hs) fun _ _ _ h => em_op ok_getK h
theorem x_dnew : PE X (.Dict [] [] pos) (eM (cyOf X) mDNew) := PE.imp pe_dnewK fun _ _ _ => em_dnew
theorem k_inK {k : Nat} (hr : Room k X.A) : OpR X (compareOp .In) (rInK false) ∧ Ok2 (cyOf X) (rInK false) (fInK false) := ⟨op_inK hr.units, ok_inK⟩
theorem k_niK {k : Nat} (hr : Room k X.A) : OpR X (compareOp .NotIn) (rInK true) ∧ Ok2 (cyOf X) (rInK true) (fInK true) := ⟨op_niK hr.units, ok_inK⟩
theorem c_lenK : CallR X (.builtin "len") (fun xs H Q => ∃ a kvs, xs = [.ref a] ∧ Rd H a (.dK kvs) ∧ Q (.int (kvs.length : Nat)) H) ∧ OkC (cyOf X) (fun xs H Q => ∃ a kvs, xs = [.ref a] ∧ Rd H a (.dK kvs) ∧ Q (.int (kvs.length : Nat)) H) fLenK := ⟨call_lenK, ok_lenK⟩
theorem c_listK (mu : Bool) (hc : X.calm = true := by rfl) : CallR X (.type "list") (fun xs H Q => ∃ (a : Addr) (kvs : List (Key × V)), xs = [.ref a] ∧ Rd H a (.dK kvs) ∧ ∀ p, H p = none → Q (.ref p) (upd H p (.lst (kvs.map fun kv => kV kv.1)))) ∧ OkC (cyOf X) (fun xs H Q => ∃ (a : Addr) (kvs : List (Key × V)), xs = [.ref a] ∧ Rd H a (.dK kvs) ∧ ∀ p, H p = none → Q (.ref p) (upd H p (.lst (kvs.map fun kv => kV kv.1)))) (fListK mu) := ⟨call_listD hc, ok_listK⟩
theorem g_subK {k : Nat} (hr : Room k X.A) (ho : PE X a (eM (cyOf X) ma)) (hi : PE X b (eM (cyOf X) mb)) (ha : ∀ v, assign (.Subscript a b pos) X.env v = (do
      let ov ← holding [v] (eval a X.env)
      let iv ← holding [v, ov] (eval b X.env)
      standAt pos
      holding [v, ov, iv] (setItem ov iv v)
      release [v, ov, iv] []) := by intro _; rfl) : PG X (.Subscript a b pos) (gM (cyOf X) (mgSub ma mb fSetK)) := PG.imp (pg_sub ho hi (set_K hr.units) ha) fun _ _ _ _ => gm_sub ok_setK
end
end My


namespace My
open PySem PySem.Spec PyProof.Rows L2

/-! ### going through a dict -/
section
variable {X : Cx}
/-- the statement runs while the thing at d is locked, whatever lock stands there behind it -/
def tLk (t : TS) : TS := fun D σ H => ∃ d u, H d = some u ∧ Mut (some u) ∧ ∀ od, t ⟨fun σ' H' => ∃ o' u', H' d = some (.frz o' u') ∧ D.nx σ' (upd H' d u'), fun v H' => ∃ o' u', H' d = some (.frz o' u') ∧ D.rt v (upd H' d u'), fun σ' H' => ∃ o' u', H' d = some (.frz o' u') ∧ D.bk σ' (upd H' d u'), fun σ' H' => ∃ o' u', H' d = some (.frz o' u') ∧ D.ct σ' (upd H' d u')⟩ σ (upd H d (.frz od u))
def tLkE (t : TE) : TE := fun σ H Q => ∃ d u, H d = some u ∧ Mut (some u) ∧ ∀ od, t σ (upd H d (.frz od u)) fun v H' => ∃ o' u', H' d = some (.frz o' u') ∧ Q v (upd H' d u')
theorem ps_lk {st : Stmt} {t : TS} (h : PS X st t) : PS X st (tLk t) := by
  refine ⟨fun pins s σ H D I hw => ?_⟩
  obtain ⟨d, u, hd, mu, hw⟩ := hw
  obtain ⟨od, I1⟩ := I.lock hd mu
  refine thn (h.run pins s σ _ _ I1 (hw od)) fun f s1 q => ?_
  cases f with
  | next => obtain ⟨σ', H', I2, _, _, e, q⟩ := q; exact ⟨σ', _, I2.unlock e (I.nofrz hd mu), q⟩
  | brk => obtain ⟨σ', H', I2, _, _, e, q⟩ := q; exact ⟨σ', _, I2.unlock e (I.nofrz hd mu), q⟩
  | cont => obtain ⟨σ', H', I2, _, _, e, q⟩ := q; exact ⟨σ', _, I2.unlock e (I.nofrz hd mu), q⟩
  | ret v => obtain ⟨x, σ', H', I2, r, _, _, e, q⟩ := q; exact ⟨x, σ', _, I2.unlock e (I.nofrz hd mu), r, q⟩
theorem pe_lk {e : Expr} {t : TE} (h : PE X e t) : PE X e (tLkE t) := by
  refine ⟨fun pins s σ H Q I hw => ?_⟩
  obtain ⟨d, u, hd, mu, hw⟩ := hw
  obtain ⟨od, I1⟩ := I.lock hd mu
  refine thn (h.run pins s σ _ _ I1 (hw od)) fun v s1 ⟨x, H1, I2, r, _, _, e2, q⟩ => ?_
  exact ⟨x, _, I2.unlock e2 (I.nofrz hd mu), r, q⟩
end

/-! ### the keys -/
def miKeys (m : ME) : MI := fun en st => (m en st).bind fun p => match p.1 with
  | .fdk _ ks _ => some (⟨ks.map keyD, none⟩, p.2)
  | _ => none
section
variable {C : Cy}
theorem itOk_keys {a : Addr} {ob : Obj} {ks : List Key} {vs : List V} {H0 : Hb} {as : List Addr} (hl : ks.length = vs.length) (q0 : H0.h a = some (.frz ob (.dK (ks.zip vs)))) : ItOk C (Itk a ob (ks.zip vs)) ⟨ks.map keyD, none⟩ H0 as := by
  intro H1 as1 st H i l w _
  have q : H a = some (.frz ob (.dK (ks.zip vs))) := w.ex _ _ (l.same _ _ q0)
  have hz : (ks.zip vs).length = ks.length := by rw [List.length_zip]; omega
  refine ⟨fun d hd => ?_, fun hi => ⟨q, by rw [hz]; simpa using hi⟩⟩
  rw [List.getElem?_map] at hd
  obtain ⟨k, hk, rfl⟩ := Option.map_eq_some_iff.mp hd
  have hlt := (List.getElem?_eq_some_iff.mp hk).1
  refine ⟨⟨q, by rw [hz]; exact hlt⟩, fun x H' y => ?_⟩
  obtain ⟨rfl, k', v, e, rfl⟩ := y
  have e2 : k' = k := by
    obtain ⟨h1, h2⟩ := List.getElem?_eq_some_iff.mp e
    obtain ⟨h3, h4⟩ := List.getElem?_eq_some_iff.mp hk
    rw [List.getElem_zip] at h2
    cases h2
    exact h4
  subst e2
  exact ⟨H1, as1, Le.refl, w, rep_keyD k'⟩
theorem im_keys {σ : L2.St} {H : Hp} {R : It → Hp → Prop} {m : ME} : iM C (miKeys m) σ H R → iKeys (eM C m) σ H R := by
  rintro ⟨H0, as, en, st, s, st', e, w, hm, k⟩
  unfold miKeys at hm
  obtain ⟨⟨d, s1⟩, ha, hm⟩ := Option.bind_eq_some_iff.mp hm
  dsimp only at hm
  split at hm
  · cases hm
    refine ⟨H0, as, en, st, _, _, e, w, ha, fun x H1 as1 H1' l1 w1 r1 => ?_⟩
    obtain ⟨a, ob, vs, ha', rfl, hs, hl, hr⟩ := r1
    have hl2 := hl.trans hr.length
    exact ⟨a, ob, rfl, .inl ⟨_, w1.ex _ _ hs, k _ H1 as1 H1' l1 w1 fun g => itOk_keys (H0 := ⟨H1.h, g⟩) hl2 hs⟩⟩
  · cases hm
end

/-! ### behind the lock -/
mutual
def nof : D → Bool
  | .fdk _ _ _ => false
  | .tup ds => nofs ds
  | .lst ds => nofs ds
  | .fro ds => nofs ds
  | _ => true
def nofs : List D → Bool
  | [] => true
  | d :: ds => nof d && nofs ds
end
def nofO : SO → Bool
  | .dead => true
  | .lst ds => nofs ds
  | .dK kvs => nofs (kvs.map (·.2))
  | .dT kvs => nofs (kvs.map (·.2))
def erase (h : Hp) (a : Addr) : Hp := fun x => if x = a then none else h x
theorem erase_ne {h : Hp} {a x : Addr} (e : x ≠ a) : erase h a x = h x := if_neg e
theorem erase_same {h : Hp} {a : Addr} : erase h a a = none := if_pos rfl
section
variable {C : Cy} {H : Hb} {as : List Addr} {a : Addr} {ob : Obj} {us : List (Key × V)}
theorem rd_er {u : HO} {x : Addr} (hf : H.h a = some (.frz ob (.dK us))) (hu : ∀ kvs, u ≠ .dK kvs) (hu2 : ∀ o v, u ≠ .frz o v) (r : Rd H.h x u) : Rd (erase H.h a) x u := by
  have ne : x ≠ a := fun e => by
    subst e
    rcases r with r | ⟨o, r⟩
    · rw [hf] at r; cases r; exact hu2 _ _ rfl
    · rw [hf] at r; cases r; exact hu _ rfl
  rcases r with r | ⟨o, r⟩
  · exact .inl (by rw [erase_ne ne]; exact r)
  · exact .inr ⟨o, by rw [erase_ne ne]; exact r⟩
mutual
theorem Rep.er (hf : H.h a = some (.frz ob (.dK us))) : ∀ {d : D} {v : V}, nof d = true → Rep C H as d v → Rep C ⟨erase H.h a, H.g⟩ as d v
  | .non, _, _, h => h
  | .bl _, _, _, h => h
  | .int _, _, _, h => h
  | .str _, _, _, h => h
  | .ty _, _, _, h => h
  | .adr _, _, _, h => h
  | .tup ds, _, c, ⟨b, vs, e, hs, hr⟩ => ⟨b, vs, e, hs.imp (rd_er hf (fun _ z => nomatch z) (fun _ _ z => nomatch z)) id, Reps.er hf (by unfold nof at c; exact c) hr⟩
  | .lst ds, _, c, ⟨b, vs, e, hs, hr⟩ => ⟨b, vs, e, by
      have ne : b ≠ a := fun e => by subst e; rw [hf] at hs; cases hs
      show erase H.h a b = _
      rw [erase_ne ne]
      exact hs, Reps.er hf (by unfold nof at c; exact c) hr⟩
  | .fro ds, _, c, ⟨b, vs, e, hs, hr⟩ => ⟨b, vs, e, hs.imp (rd_er hf (fun _ z => nomatch z) (fun _ _ z => nomatch z)) id, Reps.er hf (by unfold nof at c; exact c) hr⟩
  | .loc m, _, _, h => h
  | .fdk _ _ _, _, c, _ => by cases c
theorem Reps.er (hf : H.h a = some (.frz ob (.dK us))) : ∀ {ds : List D} {vs : List V}, nofs ds = true → Reps C H as ds vs → Reps C ⟨erase H.h a, H.g⟩ as ds vs
  | [], _, _, h => h
  | d :: ds, _, c, ⟨v, r, e, h1, h2⟩ => by
    unfold nofs at c
    rw [Bool.and_eq_true] at c
    exact ⟨v, r, e, Rep.er hf c.1 h1, Reps.er hf c.2 h2⟩
end
theorem RepKV.er {κ : Type} (hf : H.h a = some (.frz ob (.dK us))) : ∀ {ds : List (κ × D)} {vs : List (κ × V)}, nofs (ds.map (·.2)) = true → RepKV C H as ds vs → RepKV C ⟨erase H.h a, H.g⟩ as ds vs
  | [], _, _, h => h
  | (k, d) :: ds, _, c, ⟨v, r, e, h1, h2⟩ => by
    rw [List.map_cons] at c
    unfold nofs at c
    rw [Bool.and_eq_true] at c
    exact ⟨v, r, e, h1.er hf c.1, RepKV.er hf c.2 h2⟩
theorem RepO.er (hf : H.h a = some (.frz ob (.dK us))) : ∀ {o : SO} {u : HO}, nofO o = true → RepO C H as o u → RepO C ⟨erase H.h a, H.g⟩ as o u
  | .dead, _, _, h => h
  | .lst _, _, c, ⟨vs, e, h⟩ => ⟨vs, e, h.er hf c⟩
  | .dK _, _, c, ⟨vs, e, h⟩ => ⟨vs, e, h.er hf c⟩
  | .dT _, _, c, ⟨vs, e, h⟩ => ⟨vs, e, h.er hf c⟩
end
section
variable {C : Cy} {H0 : Hb} {H : Hp} {as : List Addr} {st : Sto}
/-- into the lock -/
theorem WR.lkIn (w : WR C H0 as st H) {n : Nat} {a : Addr} {us : List (Key × V)} {ob : Obj} (ha : as[n]? = some a) (hn : H0.h a = none) : WR C ⟨upd H0.h a (.frz ob (.dK us)), H0.g⟩ as (st.set n .dead) (upd H a (.frz ob (.dK us))) ∧ Le H0 as ⟨upd H0.h a (.frz ob (.dK us)), H0.g⟩ as := by
  have l : Le H0 as ⟨upd H0.h a (.frz ob (.dK us)), H0.g⟩ as := ⟨fun b x e => (show upd H0.h a _ b = some x by rw [upd_ne (ne_of_none e hn)]; exact e), rfl, List.prefix_rfl⟩
  have hm : a ∈ as := List.mem_of_getElem? ha
  refine ⟨⟨fun b x e => ?_, w.nd, by rw [List.length_set, w.len], fun b hb => ?_, fun m b x hb hx => ?_, fun q hq => ?_⟩, l⟩
  · have e : upd H0.h a _ b = some x := e
    by_cases hb : b = a
    · subst hb
      rw [upd_same] at e ⊢
      exact e
    · rw [upd_ne hb] at e ⊢
      exact w.ex b x e
  · by_cases e : b = a
    · subst e
      exact ⟨_, upd_same⟩
    · rw [upd_ne e]
      exact w.liv b hb
  · by_cases e : m = n
    · subst e
      rw [List.getElem?_set_self (by have := (List.getElem?_eq_some_iff.mp ha).1; rw [w.len] at this; exact this)] at hx
      cases hx
      exact .inl rfl
    · rw [List.getElem?_set_ne (Ne.symm e)] at hx
      have hba : b ≠ a := fun z => by
        subst z
        obtain ⟨h1, e1⟩ := List.getElem?_eq_some_iff.mp ha
        obtain ⟨h2, e2⟩ := List.getElem?_eq_some_iff.mp hb
        exact e ((List.getElem_inj w.nd).mp (e2.trans e1.symm))
      rcases w.own m b x hb hx with z | ⟨z, u, h1, h2⟩
      · exact .inl z
      · exact .inr ⟨(show upd H0.h a _ b = none by rw [upd_ne hba]; exact z), u, by rw [upd_ne hba]; exact h1, h2.mono l⟩
  · obtain ⟨h1, h2, h3⟩ := w.gho q hq
    have hqa : q.1 ≠ a := fun z => h2 (by rw [z]; exact hm)
    exact ⟨(show upd H0.h a _ q.1 = none by rw [upd_ne hqa]; exact h1), h2, by rw [upd_ne hqa]; exact h3⟩
/-- out of it -/
theorem WR.lkOut {H1 : Hb} {as1 : List Addr} {st1 : Sto} {H' : Hp} {n : Nat} {a : Addr} {us : List (Key × V)} {kvs : List (Key × D)} {ob : Obj} (l1 : Le ⟨upd H0.h a (.frz ob (.dK us)), H0.g⟩ as H1 as1) (w1 : WR C H1 as1 st1 H') (ha : as[n]? = some a) (hn : H0.h a = none) (hd : st1[n]? = some .dead) (hc : st1.all nofO = true) (r : RepKV C H0 as kvs us) :
    WR C ⟨erase H1.h a, H1.g⟩ as1 (st1.set n (.dK kvs)) (upd H' a (.dK us)) ∧ Le H0 as ⟨erase H1.h a, H1.g⟩ as1 ∧ H1.h a = some (.frz ob (.dK us)) ∧ H' a = some (.frz ob (.dK us)) := by
  have hf : H1.h a = some (.frz ob (.dK us)) := l1.same _ _ (show upd H0.h a _ a = _ from upd_same)
  have hf' := w1.ex _ _ hf
  have ha1 : as1[n]? = some a := pre_get l1.pre ha
  have l : Le H0 as ⟨erase H1.h a, H1.g⟩ as1 := ⟨fun b x e => (show erase H1.h a b = some x by
    have ne := ne_of_none e hn
    rw [erase_ne ne]
    exact l1.same _ _ (show upd H0.h a _ b = some x by rw [upd_ne ne]; exact e)), l1.gh, l1.pre⟩
  refine ⟨⟨fun b x e => ?_, w1.nd, by rw [List.length_set, w1.len], fun b hb => ?_, fun m b x hb hx => ?_, fun q hq => ?_⟩, l, hf, hf'⟩
  · have e : erase H1.h a b = some x := e
    have ne : b ≠ a := fun z => by subst z; rw [erase_same] at e; cases e
    rw [erase_ne ne] at e
    rw [upd_ne ne]
    exact w1.ex b x e
  · by_cases e : b = a
    · subst e
      exact ⟨_, upd_same⟩
    · rw [upd_ne e]
      exact w1.liv b hb
  · by_cases e : m = n
    · subst e
      rw [ha1] at hb
      cases hb
      rw [List.getElem?_set_self (List.getElem?_eq_some_iff.mp hd).1] at hx
      cases hx
      exact .inr ⟨erase_same, _, upd_same, us, rfl, r.mono l⟩
    · rw [List.getElem?_set_ne (Ne.symm e)] at hx
      have hba : b ≠ a := fun z => by
        subst z
        obtain ⟨h1, e1⟩ := List.getElem?_eq_some_iff.mp ha1
        obtain ⟨h2, e2⟩ := List.getElem?_eq_some_iff.mp hb
        exact e ((List.getElem_inj w1.nd).mp (e2.trans e1.symm))
      rcases w1.own m b x hb hx with z | ⟨z, u, h1, h2⟩
      · exact .inl z
      · exact .inr ⟨(show erase H1.h a b = none by rw [erase_ne hba]; exact z), u, by rw [upd_ne hba]; exact h1, h2.er hf (List.all_eq_true.mp hc x (List.mem_of_getElem? hx))⟩
  · obtain ⟨h1, h2, h3⟩ := w1.gho q hq
    have hqa : q.1 ≠ a := fun z => h2 (by rw [z]; exact List.mem_of_getElem? ha1)
    exact ⟨(show erase H1.h a q.1 = none by rw [erase_ne hqa]; exact h1), h2, by rw [upd_ne hqa]; exact h3⟩
end
open Classical in
/-- the dict of slot i, while an expression goes through it -/
noncomputable def mLkE (i : Nat) (m : ME) : ME := fun en st => match en[i]? with
  | some (some (.loc n)) => match st[n]? with
    | some (.dK kvs) => (m (en.set i (some (.fdk n (kvs.map (·.1)) (kvs.map (·.2))))) (st.set n .dead)).bind fun p => if nof p.1 = true ∧ p.2.all nofO = true ∧ p.2[n]? = some .dead then some (p.1, p.2.set n (.dK kvs)) else none
    | _ => none
  | _ => none
theorem RepKV.vals {C : Cy} {H : Hb} {as : List Addr} : ∀ {kvs : List (Key × D)} {vs : List (Key × V)}, RepKV C H as kvs vs → Reps C H as (kvs.map (·.2)) (vs.map (·.2)) ∧ kvs.map (·.1) = vs.map (·.1)
  | [], _, h => by
    have h : _ = [] := h
    subst h
    exact ⟨rfl, rfl⟩
  | (j, d) :: kvs, _, h => by
    obtain ⟨v, r, rfl, h1, h2⟩ := h
    obtain ⟨h3, h4⟩ := RepKV.vals h2
    exact ⟨⟨v, _, rfl, h1, h3⟩, by rw [List.map_cons, List.map_cons, h4]⟩
theorem zip_map {α β : Type} : ∀ l : List (α × β), (l.map (·.1)).zip (l.map (·.2)) = l
  | [] => rfl
  | (a, b) :: l => by
    rw [List.map_cons, List.map_cons, List.zip_cons_cons, zip_map l]
section
variable {C : Cy} {σ : L2.St} {H : Hp} {Q : VK}
theorem em_lk {i : Nat} {m : ME} : eM C (mLkE i m) σ H Q → tLkE (eM C m) σ H Q := by
  rintro ⟨H0, as, en, st, d, st', e, w, hm, k⟩
  unfold mLkE at hm
  split at hm
  · rename_i n hi
    split at hm
    · rename_i kvs hs
      obtain ⟨⟨d1, s1⟩, h1, hm⟩ := Option.bind_eq_some_iff.mp hm
      dsimp only at hm
      split at hm
      · rename_i hc
        cases hm
        obtain ⟨a, vs, ha, hn, hH, hr⟩ := w.dk hs
        obtain ⟨hv, hk⟩ := hr.vals
        refine ⟨a, _, hH, trivial, fun od => ?_⟩
        obtain ⟨w1, l1⟩ := w.lkIn (us := vs) (ob := od) ha hn
        obtain ⟨v0, hv0, a', ha', e0⟩ := e.at_ i _ hi
        rw [ha] at ha'
        cases ha'
        subst e0
        have en1 : EnR C ⟨upd H0.h a (.frz od (.dK vs)), H0.g⟩ as (en.set i (some (.fdk n (kvs.map (·.1)) (kvs.map (·.2))))) σ := by
          refine ⟨by rw [List.length_set, e.len], fun j dj hj => ?_⟩
          by_cases ej : j = i
          · subst ej
            rw [List.getElem?_set_self (by have := (List.getElem?_eq_some_iff.mp hi).1; exact this)] at hj
            cases hj
            exact ⟨_, hv0, a, od, vs.map (·.2), ha, rfl, (show upd H0.h a _ a = _ by rw [upd_same, hk, zip_map]), by simp, hv.mono l1⟩
          · rw [List.getElem?_set_ne (Ne.symm ej)] at hj
            obtain ⟨v, hv, rv⟩ := e.at_ j _ hj
            exact ⟨v, hv, rv.mono l1⟩
        refine ⟨_, as, _, _, _, _, en1, w1, h1, fun v H2 as2 H2' l2 w2 r2 => ?_⟩
        obtain ⟨w3, l3, hf, hf'⟩ := WR.lkOut l2 w2 ha hn hc.2.2 hc.2.1 hr
        exact ⟨od, _, hf', k v _ as2 _ l3 w3 (r2.er hf hc.1)⟩
      · cases hm
    · cases hm
  · cases hm
end
open Classical in
/-- .. while a statement goes through it -/
noncomputable def mLkS (i : Nat) (m : MS) : MS := fun en st => match en[i]? with
  | some (some (.loc n)) => match st[n]? with
    | some (.dK kvs) => (m (en.set i (some (.fdk n (kvs.map (·.1)) (kvs.map (·.2))))) (st.set n .dead)).bind fun p => if p.2.all nofO = true ∧ p.2[n]? = some .dead then match p.1 with
      | .nx e => if (∃ ks ds, e[i]? = some (some (.fdk n ks ds))) ∧ ∀ j d, j ≠ i → e[j]? = some (some d) → nof d = true then some (.nx (e.set i (some (.loc n))), p.2.set n (.dK kvs)) else none
      | .rt d => if nof d = true then some (.rt d, p.2.set n (.dK kvs)) else none
      | _ => none
      else none
    | _ => none
  | _ => none
section
variable {C : Cy} {σ : L2.St} {H : Hp}
theorem sm_lk {i : Nat} {m : MS} {N : Ends} : sM C (mLkS i m) N σ H → tLk (sM C m) N σ H := by
  rintro ⟨H0, as, en, st, o, st', e, w, hm, k⟩
  unfold mLkS at hm
  split at hm
  · rename_i n hi
    split at hm
    · rename_i kvs hs
      obtain ⟨⟨o1, s1⟩, h1, hm⟩ := Option.bind_eq_some_iff.mp hm
      dsimp only at hm
      split at hm
      · rename_i hc
        obtain ⟨a, vs, ha, hn, hH, hr⟩ := w.dk hs
        obtain ⟨hv, hk⟩ := hr.vals
        refine ⟨a, _, hH, trivial, fun od => ?_⟩
        obtain ⟨w1, l1⟩ := w.lkIn (us := vs) (ob := od) ha hn
        obtain ⟨v0, hv0, a', ha', e0⟩ := e.at_ i _ hi
        rw [ha] at ha'
        cases ha'
        subst e0
        have en1 : EnR C ⟨upd H0.h a (.frz od (.dK vs)), H0.g⟩ as (en.set i (some (.fdk n (kvs.map (·.1)) (kvs.map (·.2))))) σ := by
          refine ⟨by rw [List.length_set, e.len], fun j dj hj => ?_⟩
          by_cases ej : j = i
          · subst ej
            rw [List.getElem?_set_self (by have := (List.getElem?_eq_some_iff.mp hi).1; exact this)] at hj
            cases hj
            exact ⟨_, hv0, a, od, vs.map (·.2), ha, rfl, (show upd H0.h a _ a = _ by rw [upd_same, hk, zip_map]), by simp, hv.mono l1⟩
          · rw [List.getElem?_set_ne (Ne.symm ej)] at hj
            obtain ⟨v, hv, rv⟩ := e.at_ j _ hj
            exact ⟨v, hv, rv.mono l1⟩
        refine ⟨_, as, _, _, o1, _, en1, w1, h1, ?_⟩
        cases o1 with
        | nx e1 =>
          dsimp only at hm
          split at hm
          · rename_i hz
            cases hm
            obtain ⟨⟨ks, ds, hz1⟩, hz2⟩ := hz
            intro σ1 H2 as2 H2' l2 w2 e2
            obtain ⟨w3, l3, hf, hf'⟩ := WR.lkOut l2 w2 ha hn hc.2 hc.1 hr
            refine ⟨od, _, hf', k σ1 _ as2 _ l3 w3 ⟨by rw [List.length_set, e2.len], fun j dj hj => ?_⟩⟩
            by_cases ej : j = i
            · subst ej
              rw [List.getElem?_set_self (by have := (List.getElem?_eq_some_iff.mp hz1).1; exact this)] at hj
              cases hj
              obtain ⟨v, hv, b, _, _, hb, eb, _⟩ := e2.at_ j _ hz1
              exact ⟨v, hv, b, hb, eb⟩
            · rw [List.getElem?_set_ne (Ne.symm ej)] at hj
              obtain ⟨v, hv, rv⟩ := e2.at_ j _ hj
              exact ⟨v, hv, rv.er hf (hz2 j _ ej hj)⟩
          · cases hm
        | rt d1 =>
          dsimp only at hm
          split at hm
          · rename_i hz
            cases hm
            intro v H2 as2 H2' l2 w2 r2
            obtain ⟨w3, l3, hf, hf'⟩ := WR.lkOut l2 w2 ha hn hc.2 hc.1 hr
            exact ⟨od, _, hf', k v _ as2 _ l3 w3 (r2.er hf hz)⟩
          · cases hm
        | bk _ => cases hm
        | ct _ => cases hm
      · cases hm
    · cases hm
  · cases hm
end
section
variable {X : Cx} {tg e : Expr} {m : ME}
theorem i_keys (ha : PE X e (eM (cyOf X) m)) : PI X tg e (iM (cyOf X) (miKeys m)) := PI.imp (pi_keys ha) fun _ _ _ => im_keys
theorem x_lk (i : Nat) (h : PE X e (eM (cyOf X) m)) : PE X e (eM (cyOf X) (mLkE i m)) := PE.imp (pe_lk h) fun _ _ _ => em_lk
theorem z_lk {st : Stmt} {ms : MS} (i : Nat) (h : PS X st (sM (cyOf X) ms)) : PS X st (sM (cyOf X) (mLkS i ms)) := PS.imp (ps_lk h) fun _ _ _ => sm_lk
end
end My


namespace My
open PySem PySem.Spec PyProof.Rows L2

/-! ### evaluating -/
theorem settle_self (d : D) {st st' : Sto} (h : st'.length ≤ st.length) : settle st d st' = (d, st') := by
  unfold settle
  rw [if_pos h]
theorem settle_same (d : D) (st : Sto) : settle st d st = (d, st) := settle_self d (Nat.le_refl _)
theorem mV_at {i : Nat} {en : En} {st : Sto} {d : D} (h : en[i]? = some (some d)) : mV i en st = some (d, st) := by
  unfold mV
  rw [h]
theorem mV_eq (i : Nat) (en : En) (st : Sto) : mV i en st = (en[i]?.join).map fun d => (d, st) := by
  unfold mV
  split
  · rename_i d h
    rw [h]
    rfl
  · rename_i h
    cases e : en[i]? with
    | none => rfl
    | some o =>
      cases o with
      | none => rfl
      | some d => exact absurd e (h d)
theorem mDef_rt {N n : Nat} {b : MS} {ds : List D} {st st' : Sto} {d : D} (hl : ds.length = n) (h : b (ds.map some ++ List.replicate (N - ds.length) none) st = some (.rt d, st')) (hs : st'.length ≤ st.length := by first | exact Nat.le_refl _ | simp) : mDef N n b ds st = some (d, st') := by
  unfold mDef
  rw [if_pos hl, h]
  show some (settle st d st') = _
  rw [settle_self d hs]
theorem mSeq_nx {a b : MS} {en en' : En} {st st' : Sto} (h : a en st = some (.nx en', st')) : mSeq a b en st = b en' st' := by
  unfold mSeq
  rw [h]
  rfl
theorem mSeq_rt {a b : MS} {en : En} {st st' : Sto} {d : D} (h : a en st = some (.rt d, st')) : mSeq a b en st = some (.rt d, st') := by
  unfold mSeq
  rw [h]
  rfl
theorem mAsg_nx {m : ME} {g : MG} {en en' : En} {st st1 st2 : Sto} {d : D} (h : m en st = some (d, st1)) (hg : g d en st1 = some (en', st2)) : mAsg m g en st = some (.nx en', st2) := by
  unfold mAsg
  rw [h]
  show (g d en st1).bind _ = _
  rw [hg]
  rfl
theorem mRet_rt {m : ME} {en : En} {st st1 : Sto} {d : D} (h : m en st = some (d, st1)) : mRet m en st = some (.rt d, st1) := by
  unfold mRet
  rw [h]
  rfl
theorem mIfS_t {c : MB} {a b : MS} {en : En} {st st1 : Sto} (h : c en st = some (true, st1)) : mIfS c a b en st = a en st1 := by
  unfold mIfS
  rw [h]
  rfl
theorem mIfS_f {c : MB} {a b : MS} {en : En} {st st1 : Sto} (h : c en st = some (false, st1)) : mIfS c a b en st = b en st1 := by
  unfold mIfS
  rw [h]
  rfl
theorem ite_bind {α β : Type} {c : Prop} [Decidable c] (a b : Option α) (f : α → Option β) : (if c then a else b).bind f = if c then a.bind f else b.bind f := by
  split <;> rfl
theorem bite_bind {α β : Type} (c : Bool) (a b : Option α) (f : α → Option β) : (bif c then a else b).bind f = bif c then a.bind f else b.bind f := by
  cases c <;> rfl

/-! ### lists of ints -/
def rngI (lo : Int) (n : Nat) : List Int := (List.range n).map fun (i : Nat) => lo + (i : Int)
theorem rngD_eq (lo : Int) (n : Nat) : rngD lo n = (rngI lo n).map D.int := by
  unfold rngD rngI
  rw [List.map_map]
  rfl
theorem mem_rngI {lo x : Int} {n : Nat} : x ∈ rngI lo n ↔ lo ≤ x ∧ x < lo + n := by
  unfold rngI
  simp only [List.mem_map, List.mem_range]
  constructor
  · rintro ⟨i, hi, rfl⟩
    omega
  · intro h
    exact ⟨(x - lo).toNat, by omega, by omega⟩
theorem length_rngI (lo : Int) (n : Nat) : (rngI lo n).length = n := by
  unfold rngI
  simp
theorem look_tup (ds : List D) (st : Sto) : look (.tup ds) st = some ds := rfl
theorem look_lst (ds : List D) (st : Sto) : look (.lst ds) st = some ds := rfl
theorem look_fro (ds : List D) (st : Sto) : look (.fro ds) st = some ds := rfl
theorem lookL_lst (ds : List D) (st : Sto) : lookL (.lst ds) st = some ds := rfl
theorem flat_ints (ns : List Int) : (ns.map D.int).all flatD = true := by
  rw [List.all_map]
  exact List.all_eq_true.mpr fun _ _ => rfl
theorem inD_ints (x : Int) (ns : List Int) : inD (.int x) (ns.map D.int) = decide (x ∈ ns) := by
  unfold inD
  rw [List.any_map]
  rw [Bool.eq_iff_iff]
  simp only [List.any_eq_true, Function.comp, eqF, decide_eq_true_eq, beq_iff_eq]
  constructor
  · rintro ⟨y, hy, rfl⟩
    exact hy
  · exact fun h => ⟨x, h, rfl⟩
theorem fIn_ints (neg : Bool) (x : Int) (d : D) (ns : List Int) (st : Sto) (h : look d st = some (ns.map D.int)) : fIn neg (.int x) d st = some (.bl (if neg then !decide (x ∈ ns) else decide (x ∈ ns)), st) := by
  unfold fIn
  rw [h]
  show (if flatD (.int x) = true ∧ (ns.map D.int).all flatD = true then _ else _) = _
  rw [if_pos ⟨rfl, flat_ints ns⟩, inD_ints]
theorem fIn_tup (neg : Bool) (x : Int) (ns : List Int) (st : Sto) : fIn neg (.int x) (.tup (ns.map D.int)) st = some (.bl (if neg then !decide (x ∈ ns) else decide (x ∈ ns)), st) := fIn_ints neg x _ ns st rfl
theorem fIn_lst (neg : Bool) (x : Int) (ns : List Int) (st : Sto) : fIn neg (.int x) (.lst (ns.map D.int)) st = some (.bl (if neg then !decide (x ∈ ns) else decide (x ∈ ns)), st) := fIn_ints neg x _ ns st rfl
theorem atI_map {α β : Type} (f : α → β) (xs : List α) (i : Int) : atI (xs.map f) i = (atI xs i).map f := by
  unfold atI
  rw [List.length_map]
  cases ixN xs.length i with
  | none => rfl
  | some j => simp
theorem atI_nat {α : Type} {xs : List α} {i : Int} (h0 : 0 ≤ i) (h : i < xs.length) : atI xs i = some (xs[i.toNat]'(by omega)) := by
  unfold atI ixN
  rw [if_pos h0, if_pos h]
  exact List.getElem?_eq_getElem (by omega)
theorem atI_get {α : Type} {xs : List α} {i : Int} {j : Nat} {x : α} (h : xs[j]? = some x) (e : i = (j : Int)) : atI xs i = some x := by
  obtain ⟨h1, h2⟩ := List.getElem?_eq_some_iff.mp h
  subst e
  rw [atI_nat (by omega) (by omega)]
  simp [h2]
theorem atI_mem {α : Type} {xs : List α} {i : Int} (h0 : 0 ≤ i) (h : i < xs.length) : ∃ x, atI xs i = some x ∧ x ∈ xs := ⟨_, atI_nat h0 h, List.getElem_mem _⟩
theorem atI_neg1 {α : Type} {xs : List α} (h : xs ≠ []) : atI xs (-1) = some (xs.getLast h) := by
  unfold atI ixN
  have hl : 0 < xs.length := List.length_pos_iff.mpr h
  rw [if_neg (by decide), if_pos (by omega)]
  show xs[(-1 + (xs.length : Int)).toNat]? = _
  rw [show (-1 + (xs.length : Int)).toNat = xs.length - 1 by omega, List.getLast_eq_getElem, List.getElem?_eq_getElem]
theorem cutD_take (ds : List D) (k : Int) (h : 0 ≤ k) : cutD ds none (some k) = ds.take k.toNat := by
  unfold cutD HT.sIx
  dsimp only
  rw [if_neg (by omega), List.drop_zero, Nat.sub_zero]
  rw [List.take_eq_take_iff]
  omega

/-! ### loops -/
def outOk (N B : En → Sto → Prop) (R : D → Sto → Prop) (o : Out) (st : Sto) : Prop := match o with
  | .nx e => N e st
  | .ct e => N e st
  | .bk e => B e st
  | .rt d => R d st
theorem forL_inv {s : Src} {T : Tg} {b : MS} (I : Nat → En → Sto → Prop) (B : En → Sto → Prop) (R : D → Sto → Prop) (hok : ∀ i en st, I i en st → s.ok st)
    (step : ∀ (i : Nat) d en st, s.ds[i]? = some d → I i en st → ∃ en' o st', setTg T d en = some en' ∧ b en' st = some (o, st') ∧ outOk (I (i + 1)) B R o st') :
    ∀ (ds : List D) (i : Nat) (en : En) (st : Sto), s.ds.drop i = ds → i ≤ s.ds.length → I i en st → ∃ o st', forL s T b ds en st = some (o, st') ∧ match o with
      | .nx e => I s.ds.length e st' ∨ B e st'
      | .rt d => R d st'
      | _ => False
  | [], i, en, st, hd, hi, hI => by
    refine ⟨.nx en, st, ?_, ?_⟩
    · unfold forL
      rw [if_pos (hok i en st hI)]
    · have hl : s.ds.length ≤ i := List.drop_eq_nil_iff.mp hd
      have e : i = s.ds.length := by omega
      rw [← e]
      exact .inl hI
  | d :: ds, i, en, st, hd, hi, hI => by
    have hg : s.ds[i]? = some d := by
      have := congrArg List.head? hd
      rw [List.head?_drop] at this
      exact this
    have hlt := (List.getElem?_eq_some_iff.mp hg).1
    obtain ⟨en', o, st', h1, h2, h3⟩ := step i d en st hg hI
    have hd' : s.ds.drop (i + 1) = ds := by
      rw [← List.tail_drop, hd]
      rfl
    unfold forL
    rw [if_pos (hok i en st hI), h1]
    show ∃ o st', ((b en' st).bind _) = some (o, st') ∧ _
    rw [h2]
    cases o with
    | nx e => exact forL_inv I B R hok step ds (i + 1) e st' hd' hlt h3
    | ct e => exact forL_inv I B R hok step ds (i + 1) e st' hd' hlt h3
    | bk e => exact ⟨.nx e, st', rfl, .inr h3⟩
    | rt d => exact ⟨.rt d, st', rfl, h3⟩
/-- a for, by what holds ahead of turn i (I), behind a break (B), at a return (R) -/
theorem for_inv {mi : MI} {T : Tg} {b : MS} {en : En} {st st1 : Sto} {s : Src} (hm : mi en st = some (s, st1)) (I : Nat → En → Sto → Prop) (B : En → Sto → Prop) (R : D → Sto → Prop) (hok : ∀ i en st, I i en st → s.ok st) (h0 : I 0 en st1)
    (step : ∀ (i : Nat) d en st, s.ds[i]? = some d → I i en st → ∃ en' o st', setTg T d en = some en' ∧ b en' st = some (o, st') ∧ outOk (I (i + 1)) B R o st') :
    ∃ o st', mFor mi T b en st = some (o, st') ∧ match o with
      | .nx e => I s.ds.length e st' ∨ B e st'
      | .rt d => R d st'
      | _ => False := by
  unfold mFor
  rw [hm]
  exact forL_inv I B R hok step s.ds 0 en st1 rfl (Nat.zero_le _) h0
/-- a while, by what holds at each test and a number that falls -/
theorem while_inv {c : MB} {b : MS} (I : En → Sto → Prop) (μ : En → Sto → Nat) (N : En → Sto → Prop) (R : D → Sto → Prop)
    (step : ∀ en st, I en st → ∃ t st1, c en st = some (t, st1) ∧ (t = false → N en st1) ∧ (t = true → ∃ o st2, b en st1 = some (o, st2) ∧ outOk (fun e s => I e s ∧ μ e s < μ en st) N R o st2)) :
    ∀ (n : Nat) (en : En) (st : Sto), μ en st < n → I en st → ∃ o st', mWhN c b n en st = some (o, st') ∧ match o with
      | .nx e => N e st'
      | .rt d => R d st'
      | _ => False
  | 0, en, st, h, _ => by omega
  | n + 1, en, st, h, hI => by
    obtain ⟨t, st1, h1, h2, h3⟩ := step en st hI
    unfold mWhN
    rw [h1]
    cases t with
    | false => exact ⟨.nx en, st1, rfl, h2 rfl⟩
    | true =>
      obtain ⟨o, st2, h4, h5⟩ := h3 rfl
      show ∃ o st', ((b en st1).bind _) = some (o, st') ∧ _
      rw [h4]
      cases o with
      | nx e => exact while_inv I μ N R step n e st2 (by have := h5.2; omega) h5.1
      | ct e => exact while_inv I μ N R step n e st2 (by have := h5.2; omega) h5.1
      | bk e => exact ⟨.nx e, st2, rfl, h5⟩
      | rt d => exact ⟨.rt d, st2, rfl, h5⟩
theorem wh_inv {c : MB} {b : MS} {en : En} {st : Sto} (I : En → Sto → Prop) (μ : En → Sto → Nat) (N : En → Sto → Prop) (R : D → Sto → Prop) (h0 : I en st)
    (step : ∀ en st, I en st → ∃ t st1, c en st = some (t, st1) ∧ (t = false → N en st1) ∧ (t = true → ∃ o st2, b en st1 = some (o, st2) ∧ outOk (fun e s => I e s ∧ μ e s < μ en st) N R o st2)) :
    ∃ o st', mWh c b en st = some (o, st') ∧ match o with
      | .nx e => N e st'
      | .rt d => R d st'
      | _ => False := by
  obtain ⟨o, st', h, k⟩ := while_inv I μ N R step (μ en st + 1) en st (Nat.lt_succ_self _) h0
  exact ⟨o, st', mWh_of h, k⟩
/-- a comprehension that leaves the store as it is -/
theorem lcL_pure {s : Src} {T : Tg} {tt : MB} {te : ME} {en : En} {st : Sto} (p : D → Bool) (f : D → D) (hok : s.ok st) : ∀ (ds acc : List D), acc.length + ds.length < sizeLine →
    (∀ d ∈ ds, ∃ en', setTg T d en = some en' ∧ tt en' st = some (p d, st) ∧ (p d = true → te en' st = some (f d, st))) → lcL s T tt te en ds acc st = some (acc ++ (ds.filter p).map f, st)
  | [], acc, _, _ => by
    unfold lcL
    rw [if_pos hok]
    simp
  | d :: ds, acc, hl, h => by
    obtain ⟨en', h1, h2, h3⟩ := h d (by simp)
    unfold lcL
    rw [if_pos hok, h1]
    show ((tt en' st).bind _) = _
    rw [h2]
    rw [List.length_cons] at hl
    cases hp : p d with
    | true =>
      show ((te en' st).bind _) = _
      rw [h3 hp]
      show (if acc.length < sizeLine then lcL s T tt te en ds (acc ++ [f d]) st else none) = _
      rw [if_pos (by omega), lcL_pure p f hok ds _ (by rw [List.length_append]; simp only [List.length_cons, List.length_nil]; omega) fun d' hd' => h d' (List.mem_cons_of_mem _ hd'), List.filter_cons_of_pos hp, List.map_cons, List.append_assoc]
      rfl
    | false =>
      show lcL s T tt te en ds acc st = _
      rw [lcL_pure p f hok ds acc (by omega) fun d' hd' => h d' (List.mem_cons_of_mem _ hd'), List.filter_cons_of_neg (by rw [hp]; decide)]
theorem lc_pure {mu : Bool} {mi : MI} {T : Tg} {tt : MB} {te : ME} {vs : List Nat} {en : En} {st st1 : Sto} {s : Src} (hm : mi en st = some (s, st1)) (p : D → Bool) (f : D → D) (hok : s.ok st1) (hl : s.ds.length < sizeLine)
    (h : ∀ d ∈ s.ds, ∃ en', setTg T d (wipeE en vs) = some en' ∧ tt en' st1 = some (p d, st1) ∧ (p d = true → te en' st1 = some (f d, st1))) : mLc mu mi T tt te vs en st = some (alloc mu ((s.ds.filter p).map f) st1) := by
  unfold mLc
  rw [hm]
  show ((lcL s T tt te (wipeE en vs) s.ds [] st1).map _) = _
  rw [lcL_pure p f hok s.ds [] (by simpa using hl) h]
  rfl
theorem map_filter_ints (ns : List Int) (p : Int → Bool) (f : Int → D) (P : D → Bool) (F : D → D) (hp : ∀ n ∈ ns, P (.int n) = p n) (hf : ∀ n ∈ ns, p n = true → F (.int n) = f n) : ((ns.map D.int).filter P).map F = (ns.filter p).map f := by
  induction ns with
  | nil => rfl
  | cons n ns ih =>
    have ih := ih (fun m hm => hp m (List.mem_cons_of_mem _ hm)) fun m hm => hf m (List.mem_cons_of_mem _ hm)
    rw [List.map_cons]
    cases h : p n with
    | true => rw [List.filter_cons_of_pos (by rw [hp n (by simp), h]), List.filter_cons_of_pos h, List.map_cons, List.map_cons, ih, hf n (by simp) h]
    | false => rw [List.filter_cons_of_neg (by rw [hp n (by simp), h]; decide), List.filter_cons_of_neg (by rw [h]; decide), ih]
/-- over ints -/
theorem lc_ints {mu : Bool} {mi : MI} {T : Tg} {tt : MB} {te : ME} {vs : List Nat} {en : En} {st st1 : Sto} {ns : List Int} (hm : mi en st = some (⟨ns.map D.int, none⟩, st1)) (p : Int → Bool) (f : Int → D) (hl : ns.length < sizeLine)
    (h : ∀ n ∈ ns, ∃ en', setTg T (.int n) (wipeE en vs) = some en' ∧ tt en' st1 = some (p n, st1) ∧ (p n = true → te en' st1 = some (f n, st1))) : mLc mu mi T tt te vs en st = some (alloc mu ((ns.filter p).map f) st1) := by
  let P : D → Bool := fun d => match d with | .int n => p n | _ => false
  let F : D → D := fun d => match d with | .int n => f n | _ => .non
  rw [lc_pure hm P F trivial (by simpa using hl) fun d hd => by
    obtain ⟨n, hn, rfl⟩ := List.mem_map.mp hd
    exact h n hn]
  rw [map_filter_ints ns p f P F (fun _ _ => rfl) fun _ _ _ => rfl]
/-- a comprehension, by what holds of the store and of what is made so far -/
theorem lcL_inv {s : Src} {T : Tg} {tt : MB} {te : ME} {en : En} (I : Nat → List D → Sto → Prop) (hok : ∀ i acc st, I i acc st → s.ok st) (hz : ∀ i acc st, I i acc st → acc.length < sizeLine)
    (step : ∀ (i : Nat) d acc st, s.ds[i]? = some d → I i acc st → ∃ en' t st1, setTg T d en = some en' ∧ tt en' st = some (t, st1) ∧ (t = false → I (i + 1) acc st1) ∧ (t = true → ∃ y st2, te en' st1 = some (y, st2) ∧ I (i + 1) (acc ++ [y]) st2)) :
    ∀ (ds : List D) (i : Nat) (acc : List D) (st : Sto), s.ds.drop i = ds → i ≤ s.ds.length → I i acc st → ∃ ys st', lcL s T tt te en ds acc st = some (ys, st') ∧ I s.ds.length ys st'
  | [], i, acc, st, hd, hi, hI => by
    have hl : s.ds.length ≤ i := List.drop_eq_nil_iff.mp hd
    have e : i = s.ds.length := by omega
    refine ⟨acc, st, ?_, by rw [← e]; exact hI⟩
    unfold lcL
    rw [if_pos (hok i acc st hI)]
  | d :: ds, i, acc, st, hd, hi, hI => by
    have hg : s.ds[i]? = some d := by
      have := congrArg List.head? hd
      rw [List.head?_drop] at this
      exact this
    have hlt := (List.getElem?_eq_some_iff.mp hg).1
    have hd' : s.ds.drop (i + 1) = ds := by
      rw [← List.tail_drop, hd]
      rfl
    obtain ⟨en', t, st1, h1, h2, h3, h4⟩ := step i d acc st hg hI
    unfold lcL
    rw [if_pos (hok i acc st hI), h1]
    show ∃ ys st', ((tt en' st).bind _) = some (ys, st') ∧ _
    rw [h2]
    cases t with
    | false => exact lcL_inv I hok hz step ds (i + 1) acc st1 hd' hlt (h3 rfl)
    | true =>
      obtain ⟨y, st2, h5, h6⟩ := h4 rfl
      show ∃ ys st', ((te en' st1).bind _) = some (ys, st') ∧ _
      rw [h5]
      show ∃ ys st', (if acc.length < sizeLine then lcL s T tt te en ds (acc ++ [y]) st2 else none) = some (ys, st') ∧ _
      rw [if_pos (hz i acc st hI)]
      exact lcL_inv I hok hz step ds (i + 1) (acc ++ [y]) st2 hd' hlt h6
theorem lc_inv {mu : Bool} {mi : MI} {T : Tg} {tt : MB} {te : ME} {vs : List Nat} {en : En} {st st1 : Sto} {s : Src} (hm : mi en st = some (s, st1)) (I : Nat → List D → Sto → Prop) (hok : ∀ i acc st, I i acc st → s.ok st) (hz : ∀ i acc st, I i acc st → acc.length < sizeLine) (h0 : I 0 [] st1)
    (step : ∀ (i : Nat) d acc st, s.ds[i]? = some d → I i acc st → ∃ en' t st1, setTg T d (wipeE en vs) = some en' ∧ tt en' st = some (t, st1) ∧ (t = false → I (i + 1) acc st1) ∧ (t = true → ∃ y st2, te en' st1 = some (y, st2) ∧ I (i + 1) (acc ++ [y]) st2)) :
    ∃ ys st', mLc mu mi T tt te vs en st = some (alloc mu ys st') ∧ I s.ds.length ys st' := by
  obtain ⟨ys, st', h, k⟩ := lcL_inv I hok hz step s.ds 0 [] st1 rfl (Nat.zero_le _) h0
  refine ⟨ys, st', ?_, k⟩
  unfold mLc
  rw [hm]
  show ((lcL s T tt te (wipeE en vs) s.ds [] st1).map _) = _
  rw [h]
  rfl
theorem forL_nx {s : Src} {T : Tg} {b : MS} {d : D} {r : List D} {en en' en2 : En} {st st2 : Sto} (hok : s.ok st) (h1 : setTg T d en = some en') (h2 : b en' st = some (.nx en2, st2)) : forL s T b (d :: r) en st = forL s T b r en2 st2 := by
  conv => lhs; unfold forL
  rw [if_pos hok, h1]
  show ((b en' st).bind _) = _
  rw [h2]
  rfl
theorem forL_rt {s : Src} {T : Tg} {b : MS} {d x : D} {r : List D} {en en' : En} {st st2 : Sto} (hok : s.ok st) (h1 : setTg T d en = some en') (h2 : b en' st = some (.rt x, st2)) : forL s T b (d :: r) en st = some (.rt x, st2) := by
  conv => lhs; unfold forL
  rw [if_pos hok, h1]
  show ((b en' st).bind _) = _
  rw [h2]
  rfl
theorem forL_nil {s : Src} {T : Tg} {b : MS} {en : En} {st : Sto} (hok : s.ok st) : forL s T b [] en st = some (.nx en, st) := by
  unfold forL
  rw [if_pos hok]
theorem ok_none {ds : List D} {st : Sto} : (⟨ds, none⟩ : Src).ok st := trivial
/-- no number is met, or the first one that is -/
theorem for_find {mi : MI} {T : Tg} {b : MS} {en : En} {st st1 : Sto} {ns : List Int} (hm : mi en st = some (⟨ns.map D.int, none⟩, st1)) (p : Int → Bool) (g : Int → D) (E : En → Prop) (h0 : E en)
    (step : ∀ n ∈ ns, ∀ en, E en → ∃ en', setTg T (.int n) en = some en' ∧ (p n = true → b en' st1 = some (.rt (g n), st1)) ∧ (p n = false → ∃ en2, b en' st1 = some (.nx en2, st1) ∧ E en2)) :
    (∃ en2, ns.find? p = none ∧ mFor mi T b en st = some (.nx en2, st1) ∧ E en2) ∨ ∃ n, ns.find? p = some n ∧ mFor mi T b en st = some (.rt (g n), st1) := by
  unfold mFor
  rw [hm]
  show (∃ en2, ns.find? p = none ∧ forL ⟨ns.map D.int, none⟩ T b (ns.map D.int) en st1 = some (.nx en2, st1) ∧ E en2) ∨ ∃ n, ns.find? p = some n ∧ forL ⟨ns.map D.int, none⟩ T b (ns.map D.int) en st1 = some (.rt (g n), st1)
  have gen : ∀ (ms : List Int), (∀ n ∈ ms, n ∈ ns) → ∀ en, E en → (∃ en2, ms.find? p = none ∧ forL ⟨ns.map D.int, none⟩ T b (ms.map D.int) en st1 = some (.nx en2, st1) ∧ E en2) ∨ ∃ n, ms.find? p = some n ∧ forL ⟨ns.map D.int, none⟩ T b (ms.map D.int) en st1 = some (.rt (g n), st1) := by
    intro ms
    induction ms with
    | nil =>
      intro _ en hE
      refine .inl ⟨en, rfl, ?_, hE⟩
      rw [List.map_nil]
      unfold forL
      rw [if_pos (show (⟨ns.map D.int, none⟩ : Src).ok st1 from trivial)]
    | cons n ms ih =>
      intro hs en hE
      obtain ⟨en', h1, h2, h3⟩ := step n (hs n (by simp)) en hE
      rw [List.map_cons]
      cases hp : p n with
      | true => exact .inr ⟨n, List.find?_cons_of_pos hp, forL_rt ok_none h1 (h2 hp)⟩
      | false =>
        obtain ⟨en2, h4, h5⟩ := h3 hp
        rw [forL_nx ok_none h1 h4, List.find?_cons_of_neg (by rw [hp]; decide)]
        exact ih (fun m hm => hs m (List.mem_cons_of_mem _ hm)) en2 h5
  exact gen ns (fun _ h => h) en h0
end My
namespace My
open PySem PySem.Spec PyProof.Rows L2
theorem atI_0 {α : Type} (x : α) (l : List α) : atI (x :: l) 0 = some x := atI_nat (by omega) (by simp)
theorem atI_1 {α : Type} (x y : α) (l : List α) : atI (x :: y :: l) 1 = some y := atI_nat (by omega) (by simp; omega)
theorem atI_2 {α : Type} (x y z : α) (l : List α) : atI (x :: y :: z :: l) 2 = some z := atI_nat (by omega) (by simp; omega)
theorem atI_3 {α : Type} (x y z u : α) (l : List α) : atI (x :: y :: z :: u :: l) 3 = some u := atI_nat (by omega) (by simp; omega)
theorem fLen_tup (ds : List D) (st : Sto) : fLen [.tup ds] st = some (.int ds.length, st) := rfl
theorem fLen_lst (ds : List D) (st : Sto) : fLen [.lst ds] st = some (.int ds.length, st) := rfl
theorem fTuple_tup (ds : List D) (st : Sto) : fTuple [.tup ds] st = some (.tup ds, st) := rfl
theorem fTuple_lst (ds : List D) (st : Sto) : fTuple [.lst ds] st = some (.tup ds, st) := rfl
theorem alloc_f (ds : List D) (st : Sto) : alloc false ds st = (.lst ds, st) := rfl
theorem alloc_t (ds : List D) (st : Sto) : alloc true ds st = (.loc st.length, st ++ [.lst ds]) := rfl
theorem fEq_int (i j : Int) (st : Sto) : fEq (.int i) (.int j) st = some (.bl (decide (i = j)), st) := rfl
theorem fNe_int (i j : Int) (st : Sto) : fNe (.int i) (.int j) st = some (.bl (!decide (i = j)), st) := rfl
theorem fMaxL_2 (i j : Int) (st : Sto) : fMaxL [.int i, .int j] st = some (.int (if j > i then j else i), st) := rfl
theorem fMinL_2 (i j : Int) (st : Sto) : fMinL [.int i, .int j] st = some (.int (if j < i then j else i), st) := rfl
theorem fSorted_ints (ns : List Int) (st : Sto) : fSorted false [.lst (ns.map D.int)] st = some (.lst ((sortI ns).map D.int), st) := by
  show ((intsOf (ns.map D.int)).map _) = _
  rw [intsOf_map]
  rfl
theorem fIsN_int (neg : Bool) (i : Int) (st : Sto) : fIsN neg (.int i) .non st = some (.bl neg, st) := by cases neg <;> rfl
theorem fIsN_non (neg : Bool) (st : Sto) : fIsN neg .non .non st = some (.bl (!neg), st) := by cases neg <;> rfl
theorem fIsN_tup (neg : Bool) (ds : List D) (st : Sto) : fIsN neg (.tup ds) .non st = some (.bl neg, st) := by cases neg <;> rfl
theorem fInt_int (i : Int) (st : Sto) : fInt [.int i] st = some (.int i, st) := rfl
def oD : Option Int → D
  | none => .non
  | some i => .int i
end My
namespace My
theorem szlt {n : Nat} (h : n < 10000000) : n < PySem.sizeLine := Nat.lt_of_lt_of_le h (by decide)
theorem szle {n : Nat} (h : n < 10000000) : n ≤ PySem.sizeLine := Nat.le_of_lt (szlt h)
theorem szle0 : 0 ≤ PySem.sizeLine := Nat.zero_le _
theorem lg {n : Nat} (h : n < 2 ^ 9000) (h0 : 0 < n) : n.log2 < 9000 := (Nat.log2_lt (by omega)).mpr h
theorem lgI {n : Int} (h : n < 10 ^ 18) (h0 : 0 < n) : n.natAbs.log2 < 9000 := by
  refine Nat.lt_of_lt_of_le ((Nat.log2_lt (n := n.natAbs) (k := 60) (by omega)).mpr ?_) (by decide)
  have : (10 : Int) ^ 18 < 2 ^ 60 := by decide
  have e : ((2 ^ 60 : Nat) : Int) = 2 ^ 60 := by decide
  omega
end My
namespace My
open PySem PySem.Spec PyProof.Rows L2
theorem atI_natCast {α : Type} (xs : List α) (j : Nat) : atI xs (j : Int) = xs[j]? := by
  by_cases h : j < xs.length
  · rw [atI_nat (by omega) (by omega), List.getElem?_eq_getElem h]
    simp
  · rw [List.getElem?_eq_none (by omega)]
    unfold atI ixN
    rw [if_pos (by omega), if_neg (by omega)]
    rfl
theorem fAdd_int (mu : Bool) (i j : Int) (st : Sto) : fAdd mu (.int i) (.int j) st = some (.int (i + j), st) := rfl
theorem fAdd_tup (mu : Bool) (xs ys : List D) (st : Sto) : fAdd mu (.tup xs) (.tup ys) st = if xs.length + ys.length ≤ sizeLine then some (.tup (xs ++ ys), st) else none := rfl
theorem fAdd_lst (mu : Bool) (xs ys : List D) (st : Sto) : fAdd mu (.lst xs) (.lst ys) st = if xs.length + ys.length ≤ sizeLine then some (alloc mu (xs ++ ys) st) else none := rfl
theorem fSub_int (i j : Int) (st : Sto) : fSub (.int i) (.int j) st = some (.int (i - j), st) := rfl
theorem fMul_int (mu : Bool) (i j : Int) (st : Sto) : fMul mu (.int i) (.int j) st = if cMul i j = true then some (.int (i * j), st) else none := Eq.trans rfl (by cases st <;> rfl)
theorem fDiv_int (i j : Int) (st : Sto) : fDiv (.int i) (.int j) st = if cDiv i j = true then some (.int (i / j), st) else none := Eq.trans rfl (by cases st <;> rfl)
theorem fMod_int (i j : Int) (st : Sto) : fMod (.int i) (.int j) st = if cMod i j = true then some (.int (i % j), st) else none := Eq.trans rfl (by cases st <;> rfl)
theorem fNeg_int (i : Int) (st : Sto) : fNeg (.int i) st = some (.int (-i), st) := rfl
theorem fLt_int (i j : Int) (st : Sto) : fLt (.int i) (.int j) st = some (.bl (decide (i < j)), st) := rfl
theorem cDiv_ok {i j : Int} (h : 0 < j) (h2 : j < 10 ^ 18) : cDiv i j = true := by
  unfold cDiv
  rw [decide_eq_true h, decide_eq_true (lgI h2 h)]
  rfl
theorem cMod_ok {i j : Int} (h : 0 < j) : cMod i j = true := decide_eq_true h
theorem cMul_r {i j : Int} (h : -(10 ^ 18) < j ∧ j < 10 ^ 18) : cMul i j = true := by
  unfold cMul
  rw [small_of (i := j) (by omega), Bool.or_true]
theorem cMul_l {i j : Int} (h : -(10 ^ 18) < i ∧ i < 10 ^ 18) : cMul i j = true := by
  unfold cMul
  rw [small_of (i := i) (by omega)]
  rfl
theorem small_ok {i : Int} (h : -(10 ^ 18) < i ∧ i < 10 ^ 18) : small i = true := small_of (by omega)
/-- as the library's, but no check reckons through it -/
theorem b_some {α β : Type} (a : α) (f : α → Option β) : (some a).bind f = f a := Eq.trans (Eq.refl _) (Eq.refl _)
theorem b_none {α β : Type} (f : α → Option β) : (none : Option α).bind f = none := Eq.trans rfl (Eq.refl none)
theorem m_some {α β : Type} (a : α) (f : α → β) : (some a).map f = some (f a) := Eq.trans rfl (Eq.refl _)
end My
namespace My
open PySem PySem.Spec PyProof.Rows L2
theorem look_loc (n : Nat) (st : Sto) : look (.loc n) st = match st[n]? with
    | some (.lst ds) => some ds
    | _ => none := rfl
theorem lookL_loc (n : Nat) (st : Sto) : lookL (.loc n) st = match st[n]? with
    | some (.lst ds) => some ds
    | _ => none := rfl
theorem fLen_loc (n : Nat) (st : Sto) : fLen [.loc n] st = (look (.loc n) st).map fun es => (.int es.length, st) := rfl
theorem ixN_0 (n : Nat) : ixN (n + 1) 0 = some 0 := by
  unfold ixN
  rw [if_pos (by omega), if_pos (by omega)]
  rfl
theorem ixN_1 (n : Nat) : ixN (n + 2) 1 = some 1 := by
  unfold ixN
  rw [if_pos (by omega), if_pos (by omega)]
  rfl
theorem ixN_2 (n : Nat) : ixN (n + 3) 2 = some 2 := by
  unfold ixN
  rw [if_pos (by omega), if_pos (by omega)]
  rfl
theorem ixN_3 (n : Nat) : ixN (n + 4) 3 = some 3 := by
  unfold ixN
  rw [if_pos (by omega), if_pos (by omega)]
  rfl
theorem fSetL_loc (n : Nat) (k : Int) (c : D) (st : Sto) : fSetL (.loc n) (.int k) c st = match st[n]? with
    | some (.lst ds) => (ixN ds.length k).map fun j => st.set n (.lst (ds.set j c))
    | _ => none := rfl
theorem fAppend_loc (n : Nat) (d : D) (st : Sto) : fAppend (.loc n) [d] st = match st[n]? with
    | some (.lst es) => if es.length < sizeLine then some (.non, st.set n (.lst (es ++ [d]))) else none
    | _ => none := rfl
theorem fPop_loc (n : Nat) (st : Sto) : fPop (.loc n) [] st = match st[n]? with
    | some (.lst es) => es[es.length - 1]?.map fun d => (d, st.set n (.lst es.dropLast))
    | _ => none := rfl
theorem fExtend_loc (n : Nat) (b : D) (st : Sto) : fExtend (.loc n) [b] st = match st[n]? with
    | some (.lst es) => (lookL b st).bind fun fs => if es.length + fs.length ≤ sizeLine then some (.non, st.set n (.lst (es ++ fs))) else none
    | _ => none := rfl
end My
namespace My
open PySem PySem.Spec PyProof.Rows L2
theorem last_concat (l : List D) (d : D) : (l ++ [d])[(l ++ [d]).length - 1]? = some d := by simp
theorem fShl_int (i j : Int) (st : Sto) : fShl (.int i) (.int j) st = if cPow i j = true then some (.int (i * 2 ^ j.toNat), st) else none := Eq.trans (Eq.refl _) (Eq.refl _)
theorem fPow_int (i j : Int) (st : Sto) : fPow (.int i) (.int j) st = if cPow i j = true then some (.int (i ^ j.toNat), st) else none := Eq.trans (Eq.refl _) (Eq.refl _)
theorem fAbs_int (i : Int) (st : Sto) : fAbs [.int i] st = some (.int (if i < 0 then -i else i), st) := rfl
theorem two_pos (j : Nat) : (0 : Int) < 1 * 2 ^ j := by
  rw [Int.one_mul]
  exact Int.pow_pos (by decide)
theorem fEq_bl (x y : Bool) (st : Sto) : fEq (.bl x) (.bl y) st = some (.bl (decide (x = y)), st) := rfl
theorem fIsi_tt (ds : List D) (st : Sto) : fIsi [.tup ds, .ty "tuple"] st = some (.bl true, st) := rfl
theorem fIsi_it (i : Int) (st : Sto) : fIsi [.int i, .ty "tuple"] st = some (.bl false, st) := rfl
theorem fIsi_ii (i : Int) (st : Sto) : fIsi [.int i, .ty "int"] st = some (.bl true, st) := rfl
theorem fIsi_ib (i : Int) (st : Sto) : fIsi [.int i, .ty "bool"] st = some (.bl false, st) := rfl
theorem fIsi_is (i : Int) (st : Sto) : fIsi [.int i, .ty "str"] st = some (.bl false, st) := rfl
theorem fIsi_bt (i : Bool) (st : Sto) : fIsi [.bl i, .ty "tuple"] st = some (.bl false, st) := rfl
theorem fIsi_bi (i : Bool) (st : Sto) : fIsi [.bl i, .ty "int"] st = some (.bl true, st) := rfl
theorem fIsi_bb (i : Bool) (st : Sto) : fIsi [.bl i, .ty "bool"] st = some (.bl true, st) := rfl
theorem fIsi_tb (ds : List D) (st : Sto) : fIsi [.tup ds, .ty "bool"] st = some (.bl false, st) := rfl
theorem fIsi_ti (ds : List D) (st : Sto) : fIsi [.tup ds, .ty "int"] st = some (.bl false, st) := rfl
theorem fIsi_ts (ds : List D) (st : Sto) : fIsi [.tup ds, .ty "str"] st = some (.bl false, st) := rfl
theorem cut_ints (ns : List Int) (k : Int) (h : 0 ≤ k) : cutD (ns.map D.int) none (some k) = (ns.take k.toNat).map D.int := by
  rw [cutD_take _ _ h, List.map_take]
theorem rng_get {lo : Int} {n i : Nat} {d : D} (h : (rngD lo n)[i]? = some d) : d = .int (lo + i) ∧ i < n := by
  unfold rngD at h
  rw [List.getElem?_map] at h
  obtain ⟨j, hj, rfl⟩ := Option.map_eq_some_iff.mp h
  obtain ⟨h1, h2⟩ := List.getElem?_eq_some_iff.mp hj
  rw [List.getElem_range] at h2
  rw [List.length_range] at h1
  subst h2
  exact ⟨rfl, h1⟩
theorem ints_get {ns : List Int} {i : Nat} {d : D} (h : (ns.map D.int)[i]? = some d) : ∃ n, ns[i]? = some n ∧ d = .int n := by
  rw [List.getElem?_map] at h
  obtain ⟨n, h1, h2⟩ := Option.map_eq_some_iff.mp h
  exact ⟨n, h1, h2.symm⟩
/-- numbers, None, tuples of such, to a depth -/
inductive Pl : Nat → D → Prop where
  | non (n : Nat) : Pl n .non
  | int (n : Nat) (i : Int) : Pl n (.int i)
  | bl (n : Nat) (b : Bool) : Pl n (.bl b)
  | tup (n : Nat) (ds : List D) (hl : ds.length < 10000000) (h : ∀ d ∈ ds, Pl n d) : Pl (n + 1) (.tup ds)
theorem Pl.mono {n m : Nat} {d : D} (h : Pl n d) (l : n ≤ m) : Pl m d := by
  induction h generalizing m with
  | non => exact .non m
  | int n i => exact .int m i
  | bl n i => exact .bl m i
  | tup n ds hl h ih =>
    obtain ⟨k, rfl⟩ : ∃ k, m = k + 1 := ⟨m - 1, by omega⟩
    exact .tup k ds hl fun d hd => ih d hd (by omega)
theorem Pl.ints (ns : List Int) (h : ns.length < 10000000) : Pl 1 (.tup (ns.map .int)) := .tup 0 _ (by simpa using h) fun d hd => by
  obtain ⟨i, _, rfl⟩ := List.mem_map.mp hd
  exact .int 0 i
theorem Pl.oD (n : Nat) (x : Option Int) : Pl n (My.oD x) := by
  cases x with
  | none => exact .non n
  | some i => exact .int n i
end My


set_option maxHeartbeats 1000000
/-! Round sets: plain mathematics. -/
namespace My
structure Rs where
  few : List Int
  first : Int
  turn : Int
  rests : List Int
structure Rs.Wf (a : Rs) : Prop where
  few : a.few.Pairwise (· < ·)
  fewIn : ∀ m ∈ a.few, 0 ≤ m ∧ m < a.first
  first : 0 ≤ a.first
  turn : 0 < a.turn
  rests : a.rests.Pairwise (· < ·)
  restsIn : ∀ r ∈ a.rests, 0 ≤ r ∧ r < a.turn
def Rs.d (a : Rs) : D := .tup [.tup (a.few.map .int), .int a.first, .int a.turn, .tup (a.rests.map .int)]
def Rs.has (a : Rs) (n : Int) : Bool := if n < a.first then decide (n ∈ a.few) else decide (n % a.turn ∈ a.rests)
theorem look_d (a : Rs) (st : Sto) : look a.d st = some [.tup (a.few.map .int), .int a.first, .int a.turn, .tup (a.rests.map .int)] := rfl
theorem Rs.has_lo {a : Rs} {n : Int} (h : n < a.first) : a.has n = decide (n ∈ a.few) := by unfold Rs.has; rw [if_pos h]
theorem Rs.has_hi {a : Rs} {n : Int} (h : a.first ≤ n) : a.has n = decide (n % a.turn ∈ a.rests) := by unfold Rs.has; rw [if_neg (by omega)]
/-- how many are so in [s, s + n) -/
def cntP (p : Int → Bool) (s : Int) : Nat → Nat
  | 0 => 0
  | n + 1 => cntP p s n + (if p (s + n) then 1 else 0)
theorem cntP_add (p : Int → Bool) (s : Int) (n : Nat) : ∀ m : Nat, cntP p s (n + m) = cntP p s n + cntP p (s + n) m
  | 0 => rfl
  | m + 1 => by
    show cntP p s (n + m) + (if p (s + ((n + m : Nat) : Int)) then 1 else 0) = cntP p s n + (cntP p (s + n) m + (if p (s + n + (m : Int)) then 1 else 0))
    rw [cntP_add p s n m, show s + ((n + m : Nat) : Int) = s + n + m by omega]
    omega
theorem cntP_congr {p q : Int → Bool} {s : Int} : ∀ {n : Nat}, (∀ x, s ≤ x → x < s + n → p x = q x) → cntP p s n = cntP q s n
  | 0, _ => rfl
  | n + 1, h => by
    show cntP p s n + _ = cntP q s n + _
    rw [cntP_congr (n := n) fun x h1 h2 => h x h1 (by omega), h (s + n) (by omega) (by omega)]
theorem cntP_shift (p : Int → Bool) (s d : Int) : ∀ n : Nat, cntP (fun x => p (x + d)) s n = cntP p (s + d) n
  | 0 => rfl
  | n + 1 => by
    show cntP _ s n + (if p (s + (n : Int) + d) then 1 else 0) = cntP p (s + d) n + _
    rw [cntP_shift p s d n, show s + (n : Int) + d = s + d + n by omega]
theorem cntP_le (p : Int → Bool) (s : Int) : ∀ n : Nat, cntP p s n ≤ n
  | 0 => Nat.le_refl _
  | n + 1 => by
    show cntP p s n + _ ≤ n + 1
    have := cntP_le p s n
    split <;> omega
theorem cntP_rng (p : Int → Bool) (s : Int) : ∀ n : Nat, ((rngI s n).filter p).length = cntP p s n
  | 0 => rfl
  | n + 1 => by
    unfold rngI
    rw [List.range_succ, List.map_append, List.filter_append, List.length_append]
    have ih := cntP_rng p s n
    unfold rngI at ih
    rw [ih]
    show _ = cntP p s n + _
    rw [List.map_cons, List.map_nil]
    split
    · rename_i h
      rw [List.filter_cons_of_pos h]
      rfl
    · rename_i h
      rw [List.filter_cons_of_neg h]
      rfl
/-- one window of a turn is as good as another -/
theorem cntP_window {p : Int → Bool} {t : Nat} (hp : ∀ x, p (x + t) = p x) (s : Int) : ∀ n : Nat, cntP p (s + n) t = cntP p s t
  | 0 => by simp
  | n + 1 => by
    rw [← cntP_window hp s n]
    have a := cntP_add p (s + n) 1 t
    have b := cntP_add p (s + n) t 1
    rw [Nat.add_comm 1 t] at a
    have c : cntP p (s + n) 1 = if p (s + n) then 1 else 0 := by
      show 0 + _ = _
      simp
    have d : cntP p (s + n + t) 1 = if p (s + n) then 1 else 0 := by
      show 0 + (if p (s + n + t + (0 : Nat)) then 1 else 0) = _
      rw [show s + (n : Int) + t + ((0 : Nat) : Int) = s + n + t by omega, hp]
      simp
    rw [show s + ((n + 1 : Nat) : Int) = s + n + (1 : Nat) by omega]
    omega
theorem cntP_windowZ {p : Int → Bool} {t : Nat} (hp : ∀ x, p (x + t) = p x) (s u : Int) : cntP p u t = cntP p s t := by
  rcases Int.le_total s u with h | h
  · have e : u = s + ((u - s).toNat : Int) := by omega
    rw [e]
    exact cntP_window hp s _
  · have e : s = u + ((s - u).toNat : Int) := by omega
    rw [e]
    exact (cntP_window hp u _).symm
theorem cntP_turns {p : Int → Bool} {t : Nat} (hp : ∀ x, p (x + t) = p x) (s : Int) : ∀ q : Nat, cntP p s (q * t) = q * cntP p s t
  | 0 => by simp [cntP]
  | q + 1 => by
    rw [Nat.succ_mul, cntP_add, cntP_turns hp s q, cntP_windowZ hp s (s + ((q * t : Nat) : Int)), Nat.succ_mul]
/-- members of an ascending list, counted -/
theorem cntP_mem : ∀ {l : List Int} {s : Int} {n : Nat}, l.Nodup → (∀ x ∈ l, s ≤ x ∧ x < s + n) → cntP (fun x => decide (x ∈ l)) s n = l.length
  | [], s, n, _, _ => by
    have : ∀ n, cntP (fun x => decide (x ∈ ([] : List Int))) s n = 0 := by
      intro n
      induction n with
      | zero => rfl
      | succ n ih =>
        show cntP _ s n + _ = 0
        rw [ih]
        simp
    exact this n
  | y :: l, s, n, hn, hx => by
    have hy := hx y (by simp)
    have ih := cntP_mem (l := l) (s := s) (n := n) hn.of_cons fun x h => hx x (List.mem_cons_of_mem _ h)
    have ny : y ∉ l := (List.nodup_cons.mp hn).1
    have key : ∀ n : Nat, cntP (fun x => decide (x ∈ y :: l)) s n = cntP (fun x => decide (x ∈ l)) s n + (if s ≤ y ∧ y < s + n then 1 else 0) := by
      intro n
      induction n with
      | zero =>
        show 0 = 0 + _
        rw [if_neg (by omega)]
      | succ n ih =>
        show cntP _ s n + _ = (cntP _ s n + _) + _
        rw [ih]
        by_cases e : s + (n : Int) = y
        · rw [if_neg (by omega), if_pos (show s ≤ y ∧ y < s + ((n + 1 : Nat) : Int) by omega), e]
          simp [ny]
        · have e2 : (s + (n : Int) ∈ y :: l) ↔ (s + (n : Int) ∈ l) := by
            rw [List.mem_cons]
            exact ⟨fun h => h.resolve_left e, .inr⟩
          by_cases h1 : s ≤ y ∧ y < s + (n : Int)
          · rw [if_pos h1, if_pos (show s ≤ y ∧ y < s + ((n + 1 : Nat) : Int) by omega)]
            simp only [decide_eq_decide.mpr e2]
            omega
          · rw [if_neg h1, if_neg (show ¬ (s ≤ y ∧ y < s + ((n + 1 : Nat) : Int)) by omega)]
            simp only [decide_eq_decide.mpr e2]
            omega
    rw [key n, ih, if_pos hy, List.length_cons]
theorem nodup_of_lt {l : List Int} (h : l.Pairwise (· < ·)) : l.Nodup := h.imp fun h => Int.ne_of_lt h
section
variable {a : Rs}
def Rs.cnt (a : Rs) (n : Int) : Nat := cntP a.has 0 n.toNat
theorem Rs.Wf.per (w : a.Wf) (x : Int) : decide ((x + (a.turn.toNat : Int)) % a.turn ∈ a.rests) = decide (x % a.turn ∈ a.rests) := by
  have ht := w.turn
  rw [show (a.turn.toNat : Int) = a.turn by omega, Int.add_emod_right]
theorem Rs.Wf.win (w : a.Wf) (s : Int) : cntP (fun x => decide (x % a.turn ∈ a.rests)) s a.turn.toNat = a.rests.length := by
  have ht := w.turn
  rw [cntP_windowZ (p := fun x => decide (x % a.turn ∈ a.rests)) w.per 0 s]
  rw [cntP_congr (q := fun x => decide (x ∈ a.rests)) fun x h1 h2 => by rw [Int.emod_eq_of_lt h1 (by omega)]]
  exact cntP_mem (nodup_of_lt w.rests) fun x hx => by have := w.restsIn x hx; omega
theorem Rs.Wf.cnt_lo (w : a.Wf) {n : Int} (h0 : 0 ≤ n) (h : n ≤ a.first) : a.cnt n = (a.few.filter fun m => decide (m < n)).length := by
  unfold Rs.cnt
  rw [cntP_congr (q := fun x => decide (x ∈ a.few.filter fun m => decide (m < n))) fun x h1 h2 => by
    rw [Rs.has_lo (by omega)]
    exact decide_eq_decide.mpr ⟨fun hx => List.mem_filter.mpr ⟨hx, decide_eq_true (by omega)⟩, fun hx => (List.mem_filter.mp hx).1⟩]
  refine cntP_mem ((nodup_of_lt w.few).filter _) fun x hx => ?_
  obtain ⟨h1, h2⟩ := List.mem_filter.mp hx
  have := w.fewIn x h1
  have := of_decide_eq_true h2
  omega
theorem Rs.Wf.cnt_first (w : a.Wf) : a.cnt a.first = a.few.length := by
  rw [w.cnt_lo w.first (Int.le_refl _), List.filter_eq_self.mpr fun m hm => decide_eq_true (w.fewIn m hm).2]
theorem Rs.Wf.cnt_hi (w : a.Wf) {n : Int} (h : a.first ≤ n) : a.cnt n = a.few.length + cntP (fun x => decide (x % a.turn ∈ a.rests)) a.first (n - a.first).toNat := by
  have h0 := w.first
  rw [← w.cnt_first]
  unfold Rs.cnt
  rw [show n.toNat = a.first.toNat + (n - a.first).toNat by omega, cntP_add, show (0 : Int) + (a.first.toNat : Int) = a.first by omega]
  congr 1
  exact cntP_congr fun x h1 _ => Rs.has_hi h1
/-- whole turns, then what is left -/
theorem Rs.Wf.cnt_turns (w : a.Wf) (q t : Nat) : a.cnt (a.first + q * a.turn + t) = a.few.length + q * a.rests.length + cntP (fun x => decide (x % a.turn ∈ a.rests)) (a.first + q * a.turn) t := by
  have ht := w.turn
  have hq : (0 : Int) ≤ q * a.turn := Int.mul_nonneg (by omega) (by omega)
  have e : ((q * a.turn.toNat : Nat) : Int) = q * a.turn := by
    rw [Int.natCast_mul, show (a.turn.toNat : Int) = a.turn by omega]
  rw [w.cnt_hi (by omega), show (a.first + q * a.turn + t - a.first).toNat = q * a.turn.toNat + t by omega, cntP_add, cntP_turns w.per, w.win, e]
  omega
theorem Rs.cnt_step (a : Rs) {n : Int} (h : 0 ≤ n) : a.cnt (n + 1) = a.cnt n + if a.has n then 1 else 0 := by
  unfold Rs.cnt
  rw [show (n + 1).toNat = n.toNat + 1 by omega]
  show cntP _ 0 n.toNat + _ = _
  rw [show (0 : Int) + (n.toNat : Int) = n by omega]
theorem Rs.cnt_mono (a : Rs) {m n : Int} (h0 : 0 ≤ m) (h : m ≤ n) : a.cnt m ≤ a.cnt n := by
  unfold Rs.cnt
  rw [show n.toNat = m.toNat + (n - m).toNat by omega, cntP_add]
  omega
theorem Rs.cnt_none (a : Rs) {m n : Int} (h0 : 0 ≤ m) (h : m ≤ n) (hn : ∀ k, m ≤ k → k < n → a.has k = false) : a.cnt n = a.cnt m := by
  unfold Rs.cnt
  rw [show n.toNat = m.toNat + (n - m).toNat by omega, cntP_add]
  have : ∀ j : Nat, (j : Int) ≤ n - m → cntP a.has (0 + (m.toNat : Int)) j = 0 := by
    intro j
    induction j with
    | zero => intro _; rfl
    | succ j ih =>
      intro hj
      show cntP _ _ j + _ = 0
      rw [ih (by omega), hn _ (by omega) (by omega)]
      rfl
  rw [this _ (by omega)]
  rfl
/-- a member is told by its place -/
theorem Rs.place_inj (a : Rs) {m n : Int} (h0 : 0 ≤ m) (h1 : 0 ≤ n) (hm : a.has m = true) (hn : a.has n = true) (h : a.cnt m = a.cnt n) : m = n := by
  rcases Int.lt_trichotomy m n with l | l | l
  · have s := a.cnt_step h0
    rw [hm] at s
    have := a.cnt_mono (m := m + 1) (n := n) (by omega) (by omega)
    simp at s
    omega
  · exact l
  · have s := a.cnt_step h1
    rw [hn] at s
    have := a.cnt_mono (m := n + 1) (n := m) (by omega) (by omega)
    simp at s
    omega
/-- the next member -/
def Rs.Next (a : Rs) (n : Int) : Option Int → Prop
  | none => ∀ k, n ≤ k → a.has k = false
  | some r => n ≤ r ∧ a.has r = true ∧ ∀ k, n ≤ k → k < r → a.has k = false
theorem Rs.Next.uniq {n : Int} : ∀ {x y : Option Int}, a.Next n x → a.Next n y → x = y
  | none, none, _, _ => rfl
  | none, some r, h, k => by have := h r k.1; rw [k.2.1] at this; cases this
  | some r, none, k, h => by have := h r k.1; rw [k.2.1] at this; cases this
  | some r, some s, h, k => by
    rcases Int.lt_trichotomy r s with l | l | l
    · have := k.2.2 r h.1 l; rw [h.2.1] at this; cases this
    · rw [l]
    · have := h.2.2 s k.1 l; rw [k.2.1] at this; cases this
/-- the member of a place -/
def Rs.Nth (a : Rs) (k : Nat) : Option Int → Prop
  | none => ∀ r, 0 ≤ r → a.has r = true → a.cnt r ≠ k
  | some r => 0 ≤ r ∧ a.has r = true ∧ a.cnt r = k
theorem Rs.Nth.uniq {k : Nat} : ∀ {x y : Option Int}, a.Nth k x → a.Nth k y → x = y
  | none, none, _, _ => rfl
  | none, some r, h, k => absurd k.2.2 (h r k.1 k.2.1)
  | some r, none, k, h => absurd k.2.2 (h r k.1 k.2.1)
  | some r, some s, h, k => by rw [a.place_inj h.1 k.1 h.2.1 k.2.1 (h.2.2.trans k.2.2.symm)]
theorem Rs.nth_next {n : Int} (h0 : 0 ≤ n) : ∀ {x : Option Int}, a.Next n x → a.Nth (a.cnt n) x
  | none, h => fun r h1 h2 e => by
    have hr : r < n := by
      rcases Int.lt_or_le r n with l | l
      · exact l
      · have := h r l; rw [h2] at this; cases this
    have s := a.cnt_step h1
    rw [h2] at s
    have := a.cnt_mono (m := r + 1) (n := n) (by omega) (by omega)
    simp at s
    omega
  | some r, ⟨h1, h2, h3⟩ => ⟨by omega, h2, a.cnt_none h0 h1 h3⟩
end
end My


namespace My
theorem filt_get (p : Int → Bool) (s : Int) : ∀ (n i : Nat) (x : Int), ((rngI s n).filter p)[i]? = some x → s ≤ x ∧ x < s + n ∧ p x = true ∧ cntP p s (x - s).toNat = i
  | 0, i, x, h => by simp [rngI] at h
  | n + 1, i, x, h => by
    have e : rngI s (n + 1) = rngI s n ++ [s + (n : Int)] := by
      unfold rngI
      rw [List.range_succ, List.map_append]
      rfl
    rw [e, List.filter_append] at h
    by_cases hi : i < ((rngI s n).filter p).length
    · rw [List.getElem?_append_left hi] at h
      obtain ⟨h1, h2, h3, h4⟩ := filt_get p s n i x h
      exact ⟨h1, by omega, h3, h4⟩
    · rw [List.getElem?_append_right (by omega), cntP_rng] at h
      rw [cntP_rng] at hi
      cases hp : p (s + n) with
      | false =>
        rw [List.filter_cons_of_neg (by rw [hp]; decide)] at h
        simp at h
      | true =>
        rw [List.filter_cons_of_pos hp] at h
        have hz : i - cntP p s n = 0 := by
          have := (List.getElem?_eq_some_iff.mp h).1
          simp at this
          exact this
        rw [hz] at h
        simp at h
        subst h
        refine ⟨by omega, by omega, hp, ?_⟩
        rw [show (s + (n : Int) - s).toNat = n by omega]
        omega
theorem pairwise_rng (s : Int) : ∀ n : Nat, (rngI s n).Pairwise (· < ·)
  | 0 => List.Pairwise.nil
  | n + 1 => by
    have e : rngI s (n + 1) = rngI s n ++ [s + (n : Int)] := by
      unfold rngI
      rw [List.range_succ, List.map_append]
      rfl
    rw [e]
    refine List.pairwise_append.mpr ⟨pairwise_rng s n, by simp, fun x hx y hy => ?_⟩
    have := (mem_rngI.mp hx)
    have e : y = s + n := by simpa using hy
    omega
theorem filt_lt_len : ∀ {l : List Int}, l.Pairwise (· < ·) → ∀ (k : Nat) (x : Int), l[k]? = some x → (l.filter fun m => decide (m < x)).length = k
  | [], _, k, x, h => by simp at h
  | y :: l, hp, 0, x, h => by
    simp at h
    subst h
    rw [List.filter_eq_nil_iff.mpr fun m hm => ?_]
    · rfl
    · rcases List.mem_cons.mp hm with e | hm
      · simp [e]
      · have := List.rel_of_pairwise_cons hp hm
        simp
        omega
  | y :: l, hp, k + 1, x, h => by
    have h : l[k]? = some x := by simpa using h
    have := List.rel_of_pairwise_cons hp (List.mem_of_getElem? h)
    rw [List.filter_cons_of_pos (by simpa using this), List.length_cons, filt_lt_len hp.of_cons k x h]
theorem perm_of_nodup : ∀ {l m : List Int}, l.Nodup → m.Nodup → (∀ x, x ∈ l ↔ x ∈ m) → l.Perm m
  | [], m, _, _, h => by
    have : m = [] := List.eq_nil_iff_forall_not_mem.mpr fun x hx => by simpa using (h x).mpr hx
    subst this
    exact .nil
  | x :: l, m, hl, hm, h => by
    have hx : x ∈ m := (h x).mp (by simp)
    obtain ⟨m1, m2, rfl⟩ := List.append_of_mem hx
    have hm' : (m1 ++ m2).Nodup ∧ x ∉ m1 ++ m2 := by
      have := (List.perm_middle (a := x) (l₁ := m1) (l₂ := m2)).nodup_iff.mp hm
      exact ⟨this.of_cons, (List.nodup_cons.mp this).1⟩
    have ih := perm_of_nodup hl.of_cons hm'.1 fun y => by
      constructor
      · intro hy
        have : y ∈ m1 ++ x :: m2 := (h y).mp (List.mem_cons_of_mem _ hy)
        rcases List.mem_append.mp this with z | z
        · exact List.mem_append_left _ z
        · rcases List.mem_cons.mp z with e | z
          · subst e
            exact absurd hy (List.nodup_cons.mp hl).1
          · exact List.mem_append_right _ z
      · intro hy
        have : y ∈ x :: l := (h y).mpr (by
          rcases List.mem_append.mp hy with z | z
          · exact List.mem_append_left _ z
          · exact List.mem_append_right _ (List.mem_cons_of_mem _ z))
        rcases List.mem_cons.mp this with e | z
        · subst e
          exact absurd hy hm'.2
        · exact z
    exact (ih.cons x).trans List.perm_middle.symm
section
variable {a : Rs}
def Rs.rounds (a : Rs) : List Int := (rngI a.first a.turn.toNat).filter fun x => decide (x % a.turn ∈ a.rests)
theorem Rs.Wf.rounds_len (w : a.Wf) : a.rounds.length = a.rests.length := by
  unfold Rs.rounds
  rw [cntP_rng, w.win]
def Rs.nth (a : Rs) (k : Nat) : Option Int :=
  if k < a.few.length then a.few[k]? else if a.rests = [] then none else (a.rounds[(k - a.few.length) % a.rests.length]?).map fun x => x + ((k - a.few.length) / a.rests.length : Nat) * a.turn
theorem Rs.Wf.nth_ok (w : a.Wf) (k : Nat) : a.Nth k (a.nth k) := by
  unfold Rs.nth
  split
  · rename_i hk
    rw [List.getElem?_eq_getElem hk]
    have hx := w.fewIn a.few[k] (List.getElem_mem hk)
    refine ⟨hx.1, ?_, ?_⟩
    · rw [Rs.has_lo hx.2]
      exact decide_eq_true (List.getElem_mem hk)
    · rw [w.cnt_lo hx.1 (by omega)]
      exact filt_lt_len w.few k _ (List.getElem?_eq_getElem hk)
  · rename_i hk
    split
    · rename_i hr
      intro r h0 hh e
      have hlt : r < a.first := by
        rcases Int.lt_or_le r a.first with l | l
        · exact l
        · rw [Rs.has_hi l, hr] at hh
          simp at hh
      have s := a.cnt_step h0
      rw [hh] at s
      have := a.cnt_mono (m := r + 1) (n := a.first) (by omega) (by omega)
      rw [w.cnt_first] at this
      simp at s
      omega
    · rename_i hr
      have hL : 0 < a.rests.length := List.length_pos_iff.mpr hr
      have hi : (k - a.few.length) % a.rests.length < a.rounds.length := by rw [w.rounds_len]; exact Nat.mod_lt _ hL
      rw [List.getElem?_eq_getElem hi]
      have hg := List.getElem?_eq_getElem hi
      unfold Rs.rounds at hg
      obtain ⟨h1, h2, h3, h4⟩ := filt_get _ _ _ _ _ hg
      have ht := w.turn
      generalize hx : a.rounds[(k - a.few.length) % a.rests.length] = x at *
      have hx' : ((rngI a.first a.turn.toNat).filter fun x => decide (x % a.turn ∈ a.rests))[(k - a.few.length) % a.rests.length]'(hi) = x := hx
      rw [hx'] at h1 h2 h3 h4
      generalize hq : (k - a.few.length) / a.rests.length = q
      have hq0 : (0 : Int) ≤ q * a.turn := Int.mul_nonneg (by omega) (by omega)
      have hw := w.first
      refine ⟨by show 0 ≤ x + q * a.turn; omega, ?_, ?_⟩
      · show a.has (x + q * a.turn) = true
        rw [Rs.has_hi (by omega), Int.add_mul_emod_self_right]
        exact h3
      · show a.cnt (x + q * a.turn) = k
        have e : x + q * a.turn = a.first + q * a.turn + ((x - a.first).toNat : Int) := by omega
        have c : cntP (fun x => decide (x % a.turn ∈ a.rests)) (a.first + q * a.turn) (x - a.first).toNat = (k - a.few.length) % a.rests.length := by
          rw [← cntP_shift, ← h4]
          exact cntP_congr fun y _ _ => by rw [Int.add_mul_emod_self_right]
        rw [e, w.cnt_turns, c]
        have := Nat.div_add_mod (k - a.few.length) a.rests.length
        rw [hq, Nat.mul_comm] at this
        omega
theorem Rs.Wf.beg (w : a.Wf) {r : Int} (hr : r ∈ a.rests) : (a.first + (r - a.first) % a.turn) % a.turn = r := by
  have := w.restsIn r hr
  rw [Int.add_emod, Int.emod_emod_of_dvd _ (Int.dvd_refl _), ← Int.add_emod, show a.first + (r - a.first) = r by omega, Int.emod_eq_of_lt this.1 this.2]
theorem Rs.Wf.going (w : a.Wf) : sortI (a.rests.map fun r => a.first + (r - a.first) % a.turn) = a.rounds := by
  have ht := w.turn
  refine (sortI_eq ?_ ?_).symm
  · refine (perm_of_nodup ?_ ?_ ?_).symm
    · refine (List.pairwise_map.mpr ((List.Pairwise.imp_of_mem (fun {x y} hx hy h => ?_) (nodup_of_lt w.rests))))
      intro e
      have e2 := congrArg (· % a.turn) e
      simp only [w.beg hx, w.beg hy] at e2
      exact h e2
    · exact (nodup_of_lt (pairwise_rng _ _)).filter _
    · intro x
      unfold Rs.rounds
      simp only [List.mem_map, List.mem_filter, mem_rngI, decide_eq_true_eq]
      constructor
      · rintro ⟨r, hr, rfl⟩
        have h1 := Int.emod_nonneg (r - a.first) (by omega : a.turn ≠ 0)
        have h2 := Int.emod_lt_of_pos (r - a.first) ht
        exact ⟨by omega, by rw [w.beg hr]; exact hr⟩
      · rintro ⟨⟨h1, h2⟩, h3⟩
        refine ⟨x % a.turn, h3, ?_⟩
        rw [Int.sub_emod, Int.emod_emod_of_dvd _ (Int.dvd_refl _), ← Int.sub_emod, Int.emod_eq_of_lt (by omega) (by omega)]
        omega
  · exact ((pairwise_rng _ _).filter _).imp fun h => by omega
theorem ediv_pred {m t : Int} (ht : 0 < t) (hm : 1 ≤ m) : m / t = (m - 1) / t + if m % t = 0 then 1 else 0 := by
  have e := Int.emod_add_mul_ediv m t
  have h1 := Int.emod_nonneg m (by omega : t ≠ 0)
  have h2 := Int.emod_lt_of_pos m ht
  generalize m % t = y at *
  generalize m / t = q at *
  split
  · rename_i hy
    have e2 : m - 1 = (t - 1) + t * (q - 1) := by rw [Int.mul_sub]; omega
    rw [e2, Int.add_mul_ediv_left _ _ (by omega), Int.ediv_eq_zero_of_lt (by omega) (by omega)]
    omega
  · rename_i hy
    have e2 : m - 1 = (y - 1) + t * q := by omega
    rw [e2, Int.add_mul_ediv_left _ _ (by omega), Int.ediv_eq_zero_of_lt (by omega) (by omega)]
    omega
/-- members of one rest below n -/
def Rs.part (a : Rs) (n r : Int) : Int := if a.first + (r - a.first) % a.turn < n then (n - 1 - (a.first + (r - a.first) % a.turn)) / a.turn + 1 else 0
theorem Rs.Wf.part_cnt (w : a.Wf) {r : Int} (hr : r ∈ a.rests) : ∀ j : Nat, a.part (a.first + j) r = (cntP (fun x => decide (x % a.turn = r)) a.first j : Nat)
  | 0 => by
    have h1 := Int.emod_nonneg (r - a.first) (by have := w.turn; omega : a.turn ≠ 0)
    unfold Rs.part
    rw [if_neg (by omega)]
    rfl
  | j + 1 => by
    have ht := w.turn
    have h1 := Int.emod_nonneg (r - a.first) (by omega : a.turn ≠ 0)
    have h2 := Int.emod_lt_of_pos (r - a.first) ht
    have hb := w.beg hr
    have ih := w.part_cnt hr j
    show _ = ((cntP (fun x => decide (x % a.turn = r)) a.first j + (if decide ((a.first + (j : Int)) % a.turn = r) = true then 1 else 0) : Nat) : Int)
    conv => rhs; rw [Int.natCast_add, ← ih]
    have iff : (a.first + (j : Int)) % a.turn = r ↔ ((j : Int) - (r - a.first) % a.turn) % a.turn = 0 := by
      conv => lhs; rhs; rw [← hb]
      rw [Int.emod_eq_emod_iff_emod_sub_eq_zero, show a.first + (j : Int) - (a.first + (r - a.first) % a.turn) = (j : Int) - (r - a.first) % a.turn by omega]
    simp only [decide_eq_true_eq, iff]
    unfold Rs.part
    generalize (r - a.first) % a.turn = b at *
    rcases Int.lt_trichotomy (j : Int) b with l | l | l
    · rw [if_neg (by omega), if_neg (by omega), if_neg]
      · rfl
      · intro z
        rw [← Int.add_emod_right, Int.emod_eq_of_lt (by omega) (by omega)] at z
        omega
    · rw [if_pos (by omega), if_neg (by omega), if_pos (by rw [show (j : Int) - b = 0 by omega]; rfl), show a.first + ((j + 1 : Nat) : Int) - 1 - (a.first + b) = 0 by omega, Int.zero_ediv]
      rfl
    · have := ediv_pred ht (m := (j : Int) - b) (by omega)
      rw [if_pos (by omega), if_pos (by omega), show a.first + ((j + 1 : Nat) : Int) - 1 - (a.first + b) = (j : Int) - b by omega, show a.first + (j : Int) - 1 - (a.first + b) = (j : Int) - b - 1 by omega, this]
      split <;> simp <;> omega
theorem sum_cnt {t : Int} : ∀ (rs : List Int) (s : Int) (n : Nat), rs.Nodup → ((rs.map fun r => (cntP (fun x => decide (x % t = r)) s n : Int)).sum) = (cntP (fun x => decide (x % t ∈ rs)) s n : Nat)
  | [], s, n, _ => by
    have : ∀ n, cntP (fun x => decide (x % t ∈ ([] : List Int))) s n = 0 := by
      intro n
      induction n with
      | zero => rfl
      | succ n ih =>
        show cntP _ s n + _ = 0
        rw [ih]
        simp
    rw [this]
    rfl
  | r :: rs, s, n, h => by
    rw [List.map_cons, List.sum_cons, sum_cnt rs s n h.of_cons]
    have nr := (List.nodup_cons.mp h).1
    have : ∀ n, cntP (fun x => decide (x % t ∈ r :: rs)) s n = cntP (fun x => decide (x % t = r)) s n + cntP (fun x => decide (x % t ∈ rs)) s n := by
      intro n
      induction n with
      | zero => rfl
      | succ n ih =>
        show cntP _ s n + _ = (cntP _ s n + _) + (cntP _ s n + _)
        rw [ih]
        by_cases e : (s + (n : Int)) % t = r
        · have : (s + (n : Int)) % t ∉ rs := by rw [e]; exact nr
          simp only [e, List.mem_cons, true_or, decide_true, if_true]
          rw [e] at this
          simp [this]
          omega
        · simp only [List.mem_cons, e, false_or, decide_false]
          simp
          omega
    rw [this]
    omega
/-- the program's sum is the count -/
theorem Rs.Wf.cnt_sum (w : a.Wf) {n : Int} (h : a.first ≤ n) : (a.cnt n : Int) = a.few.length + (a.rests.map fun r => a.part n r).sum := by
  rw [w.cnt_hi h, Int.natCast_add, ← sum_cnt a.rests a.first _ (nodup_of_lt w.rests)]
  congr 2
  refine List.map_congr_left fun r hr => ?_
  rw [← w.part_cnt hr, show a.first + ((n - a.first).toNat : Int) = n by omega]
end
end My


namespace K05
open PySem PySem.Spec PyProof.Rows L2 My
def topS (i : Nat) : Stmt := PySem.Challenge.pw_moneyheld_k05_listed_and_shared.main.body.getD i (.Pass ⟨0, 0, 0, 0⟩)
theorem bt_range : bootBuiltins ("range" : Str) = some (.type "range") := by decide +kernel
theorem bt_tuple : bootBuiltins ("tuple" : Str) = some (.type "tuple") := by decide +kernel
theorem bt_len : bootBuiltins ("len" : Str) = some (.builtin "len") := by decide +kernel
theorem bt_int : bootBuiltins ("int" : Str) = some (.type "int") := by decide +kernel
theorem bt_isinstance : bootBuiltins ("isinstance" : Str) = some (.builtin "isinstance") := by decide +kernel
theorem bt_bool : bootBuiltins ("bool" : Str) = some (.type "bool") := by decide +kernel
theorem bt_str : bootBuiltins ("str" : Str) = some (.type "str") := by decide +kernel
theorem bt_list : bootBuiltins ("list" : Str) = some (.type "list") := by decide +kernel
theorem bt_sorted : bootBuiltins ("sorted" : Str) = some (.builtin "sorted") := by decide +kernel
theorem bt_max : bootBuiltins ("max" : Str) = some (.builtin "max") := by decide +kernel
abbrev s_listed_below : Stmt := topS 2
abbrev s_listed : Stmt := topS 4
abbrev s_share : Stmt := topS 5
abbrev s__law_vat : Stmt := topS 7
abbrev s__law_draw : Stmt := topS 8
abbrev s__law_same : Stmt := topS 9
abbrev s__law_form : Stmt := topS 10
abbrev s__law_has : Stmt := topS 11
abbrev s__law_round : Stmt := topS 12
abbrev s__law_lowest : Stmt := topS 13
abbrev s__law_asked : Stmt := topS 14
abbrev s__law_hand : Stmt := topS 15
abbrev s_law : Stmt := topS 16
structure Facts (K : PySem.W.Frag) (mg : Str → Option Value) where
  a_listed_below : Addr
  d_listed_below : FuncData
  F_listed_below : Fun K "listed_below" "listed_below" s_listed_below a_listed_below d_listed_below
  g_listed_below : mg "listed_below" = some (.ref a_listed_below)
  a_listed : Addr
  d_listed : FuncData
  F_listed : Fun K "listed" "listed" s_listed a_listed d_listed
  g_listed : mg "listed" = some (.ref a_listed)
  a_share : Addr
  d_share : FuncData
  F_share : Fun K "share" "share" s_share a_share d_share
  g_share : mg "share" = some (.ref a_share)
  a__law_vat : Addr
  d__law_vat : FuncData
  F__law_vat : Fun K "_law_vat" "_law_vat" s__law_vat a__law_vat d__law_vat
  g__law_vat : mg "_law_vat" = some (.ref a__law_vat)
  a__law_draw : Addr
  d__law_draw : FuncData
  F__law_draw : Fun K "_law_draw" "_law_draw" s__law_draw a__law_draw d__law_draw
  g__law_draw : mg "_law_draw" = some (.ref a__law_draw)
  a__law_same : Addr
  d__law_same : FuncData
  F__law_same : Fun K "_law_same" "_law_same" s__law_same a__law_same d__law_same
  g__law_same : mg "_law_same" = some (.ref a__law_same)
  a__law_form : Addr
  d__law_form : FuncData
  F__law_form : Fun K "_law_form" "_law_form" s__law_form a__law_form d__law_form
  g__law_form : mg "_law_form" = some (.ref a__law_form)
  a__law_has : Addr
  d__law_has : FuncData
  F__law_has : Fun K "_law_has" "_law_has" s__law_has a__law_has d__law_has
  g__law_has : mg "_law_has" = some (.ref a__law_has)
  a__law_round : Addr
  d__law_round : FuncData
  F__law_round : Fun K "_law_round" "_law_round" s__law_round a__law_round d__law_round
  g__law_round : mg "_law_round" = some (.ref a__law_round)
  a__law_lowest : Addr
  d__law_lowest : FuncData
  F__law_lowest : Fun K "_law_lowest" "_law_lowest" s__law_lowest a__law_lowest d__law_lowest
  g__law_lowest : mg "_law_lowest" = some (.ref a__law_lowest)
  a__law_asked : Addr
  d__law_asked : FuncData
  F__law_asked : Fun K "_law_asked" "_law_asked" s__law_asked a__law_asked d__law_asked
  g__law_asked : mg "_law_asked" = some (.ref a__law_asked)
  a__law_hand : Addr
  d__law_hand : FuncData
  F__law_hand : Fun K "_law_hand" "_law_hand" s__law_hand a__law_hand d__law_hand
  g__law_hand : mg "_law_hand" = some (.ref a__law_hand)
  a_law : Addr
  d_law : FuncData
  F_law : Fun K "law" "law" s_law a_law d_law
  g_law : mg "law" = some (.ref a_law)
  b_range : mg "range" = none
  b_tuple : mg "tuple" = none
  b_len : mg "len" = none
  b_int : mg "int" = none
  b_isinstance : mg "isinstance" = none
  b_bool : mg "bool" = none
  b_str : mg "str" = none
  b_list : mg "list" = none
  b_sorted : mg "sorted" = none
  b_max : mg "max" = none
  g_gcd : mg "gcd" = some (.builtin "math.gcd")
section
variable {P : Program} {w : World} {K : PySem.W.Frag} {mg : Str → Option Value} {base : Heap}
theorem b_listed_below (Fc : Facts K mg) : Binds K Fc.d_listed_below ["amounts", "most"] [] := Fc.F_listed_below.binds (ps := ["amounts", "most"]) fun _ _ _ _ _ _ us hl => match us, hl with | [_, _], _ => rfl
theorem b_listed (Fc : Facts K mg) : Binds K Fc.d_listed ["amounts", "most"] [] := Fc.F_listed.binds (ps := ["amounts", "most"]) fun _ _ _ _ _ _ us hl => match us, hl with | [_, _], _ => rfl
theorem b_share (Fc : Facts K mg) : Binds K Fc.d_share ["amounts"] [] := Fc.F_share.binds (ps := ["amounts"]) fun _ _ _ _ _ _ us hl => match us, hl with | [_], _ => rfl
theorem b__law_vat (Fc : Facts K mg) : Binds K Fc.d__law_vat ["script"] [] := Fc.F__law_vat.binds (ps := ["script"]) fun _ _ _ _ _ _ us hl => match us, hl with | [_], _ => rfl
theorem b__law_draw (Fc : Facts K mg) : Binds K Fc.d__law_draw ["vat", "place", "many"] [] := Fc.F__law_draw.binds (ps := ["vat", "place", "many"]) fun _ _ _ _ _ _ us hl => match us, hl with | [_, _, _], _ => rfl
theorem b__law_same (Fc : Facts K mg) : Binds K Fc.d__law_same ["told", "due"] [] := Fc.F__law_same.binds (ps := ["told", "due"]) fun _ _ _ _ _ _ us hl => match us, hl with | [_, _], _ => rfl
theorem b__law_form (Fc : Facts K mg) : Binds K Fc.d__law_form ["few", "first", "turn", "rests"] [] := Fc.F__law_form.binds (ps := ["few", "first", "turn", "rests"]) fun _ _ _ _ _ _ us hl => match us, hl with | [_, _, _, _], _ => rfl
theorem b__law_has (Fc : Facts K mg) : Binds K Fc.d__law_has ["amounts", "number"] [] := Fc.F__law_has.binds (ps := ["amounts", "number"]) fun _ _ _ _ _ _ us hl => match us, hl with | [_, _], _ => rfl
theorem b__law_round (Fc : Facts K mg) : Binds K Fc.d__law_round ["vat", "firsts", "turns", "most"] [] := Fc.F__law_round.binds (ps := ["vat", "firsts", "turns", "most"]) fun _ _ _ _ _ _ us hl => match us, hl with | [_, _, _, _], _ => rfl
theorem b__law_lowest (Fc : Facts K mg) : Binds K Fc.d__law_lowest ["top", "bottom"] [] := Fc.F__law_lowest.binds (ps := ["top", "bottom"]) fun _ _ _ _ _ _ us hl => match us, hl with | [_, _], _ => rfl
theorem b__law_asked (Fc : Facts K mg) : Binds K Fc.d__law_asked ["vat", "amounts", "far"] [] := Fc.F__law_asked.binds (ps := ["vat", "amounts", "far"]) fun _ _ _ _ _ _ us hl => match us, hl with | [_, _, _], _ => rfl
theorem b__law_hand (Fc : Facts K mg) : Binds K Fc.d__law_hand [] [] := Fc.F__law_hand.binds (ps := []) fun _ _ _ _ _ _ us hl => match us, hl with | [], _ => rfl
theorem b_law (Fc : Facts K mg) : Binds K Fc.d_law ["script"] [] := Fc.F_law.binds (ps := ["script"]) fun _ _ _ _ _ _ us hl => match us, hl with | [_], _ => rfl
theorem kb_share_0 (Fc : Facts K mg) : KwB Fc.d_share ["amounts"] 0 ["amounts"] [0] := Fun.kw Fc.F_share fun _ _ _ _ _ _ us ws h1 h2 => match us, ws, h1, h2 with | [], [_], _, _ => rfl
theorem kb_listed_1 (Fc : Facts K mg) : KwB Fc.d_listed ["amounts", "most"] 0 ["most", "amounts"] [1, 0] := Fun.kw Fc.F_listed fun _ _ _ _ _ _ us ws h1 h2 => match us, ws, h1, h2 with | [], [_, _], _, _ => rfl
abbrev N_listed_below : List Str := ["amounts", "most", "going", "few", "first", "turn", "rests", "number"]
theorem sc_listed_below : FnScope N_listed_below ["amounts", "most"] (defScope s_listed_below) := ⟨rfl, rfl, rfl, by decide +kernel, rfl, by decide +kernel, by decide +kernel⟩
noncomputable def ms_listed_below_0 : MS := (mAsg (mV 0) (mgTup 4 (mgCons (mgT (.name 3)) (mgCons (mgT (.name 4)) (mgCons (mgT (.name 5)) (mgCons (mgT (.name 6)) mgNil))))))
theorem st_listed_below_0 (Fc : Facts K mg) (cdv : Value) (A : Around) (outer : List Env) (s : Shared) (H : Hp) (E : XK) (hr : Room (0) (A.deeper (envOfC "listed_below" (defScope s_listed_below) s.heap.objs.size Fc.a_listed_below cdv))) : PS (cxOf CX0 P w K mg base N_listed_below "listed_below" (defScope s_listed_below) Fc.a_listed_below cdv A outer s H E).nox (stmtAt (defBody s_listed_below) 0) (sM ⟨K, P, w⟩ (ms_listed_below_0)) :=
    (z_asg (x_v 0) (g_tup (n := 4) rfl (g_cons (g_T (t_name 3 sc_listed_below.nd rfl (by first | exact Or.inl rfl | exact Or.inr rfl))) (g_cons (g_T (t_name 4 sc_listed_below.nd rfl (by first | exact Or.inl rfl | exact Or.inr rfl))) (g_cons (g_T (t_name 5 sc_listed_below.nd rfl (by first | exact Or.inl rfl | exact Or.inr rfl))) (g_cons (g_T (t_name 6 sc_listed_below.nd rfl (by first | exact Or.inl rfl | exact Or.inr rfl))) g_nil))))))
noncomputable def ms_listed_below_2 : MS := (mAsg (mLc false (miRng2 (mCons (mV 4) (mCons (mV 1) mNil))) (.name 7) (mTB (mOp (fIn false) (mOp fMod (mV 7) (mV 5)) (mV 6))) (mV 7) [7]) (mgName 2))
theorem st_listed_below_2 (Fc : Facts K mg) (cdv : Value) (A : Around) (outer : List Env) (s : Shared) (H : Hp) (E : XK) (hr : Room (0) (A.deeper (envOfC "listed_below" (defScope s_listed_below) s.heap.objs.size Fc.a_listed_below cdv))) : PS (cxOf CX0 P w K mg base N_listed_below "listed_below" (defScope s_listed_below) Fc.a_listed_below cdv A outer s H E).nox (stmtAt (defBody s_listed_below) 1) (sM ⟨K, P, w⟩ (ms_listed_below_2)) :=
    (x_setLc false (i := 2) (T := (.name 7)) (own := [("number", 7)]) rfl sc_listed_below.nd rfl rfl (sw_true rfl rfl rfl (by decide +kernel)) (i_rng2 (by rfl) Fc.b_range (a_cons (x_v 4) (a_cons (x_v 1) a_nil))) (by first | exact blkOk_by (N := N_listed_below) (sc := defScope s_listed_below) (by decide +kernel) | exact blkOk_by (by kernel_rfl)) rfl (fun _ _ _ _ _ => (t_name 7 sc_listed_below.nd rfl (by first | exact Or.inl rfl | exact Or.inr rfl))) (fun _ _ _ _ _ => (cs_one (y_k k_in (x_mod (x_v 7) (x_v 5)) (x_v 6)))) (fun _ _ _ _ _ => (x_v 7)))
noncomputable def ms_listed_below_4 : MS := (mRet (mOp (fAdd false) (mLc false (miSeq (mV 3)) (.name 7) (mTB (mOp fLt (mV 7) (mV 1))) (mV 7) [7]) (mV 2)))
theorem st_listed_below_4 (Fc : Facts K mg) (cdv : Value) (A : Around) (outer : List Env) (s : Shared) (H : Hp) (E : XK) (hr : Room (0) (A.deeper (envOfC "listed_below" (defScope s_listed_below) s.heap.objs.size Fc.a_listed_below cdv))) : PS (cxOf CX0 P w K mg base N_listed_below "listed_below" (defScope s_listed_below) Fc.a_listed_below cdv A outer s H E).nox (stmtAt (defBody s_listed_below) 2) (sM ⟨K, P, w⟩ (ms_listed_below_4)) :=
    (z_ret (x_add false (x_lc false (T := (.name 7)) (own := [("number", 7)]) rfl sc_listed_below.nd (i_seq (x_v 3)) (by first | exact blkOk_by (N := N_listed_below) (sc := defScope s_listed_below) (by decide +kernel) | exact blkOk_by (by kernel_rfl)) rfl (fun _ _ _ _ _ => (t_name 7 sc_listed_below.nd rfl (by first | exact Or.inl rfl | exact Or.inr rfl))) (fun _ _ _ _ _ => (cs_one (y_k k_lt (x_v 7) (x_v 1)))) (fun _ _ _ _ _ => (x_v 7))) (x_v 2)))
noncomputable def m_listed_below : List D → Sto → Option (D × Sto) := mDef 8 2 (mSeq (ms_listed_below_0)
    (mSeq (ms_listed_below_2)
    (ms_listed_below_4)))
theorem ok_listed_below (Fc : Facts K mg) : FnOk P w K mg base CX0 1 Fc.a_listed_below Fc.d_listed_below ["amounts", "most"] (spM ⟨K, P, w⟩ m_listed_below) := x_def (k := 0) Fc.F_listed_below sc_listed_below rfl rfl fun cdv A outer s H E hr =>
    (z_cons (st_listed_below_0 Fc cdv A outer s H E hr)
    (z_cons (st_listed_below_2 Fc cdv A outer s H E hr)
    (z_one (st_listed_below_4 Fc cdv A outer s H E hr))))
abbrev N_listed : List Str := ["amounts", "most"]
theorem sc_listed : FnScope N_listed ["amounts", "most"] (defScope s_listed) := ⟨rfl, rfl, rfl, by decide +kernel, rfl, by decide +kernel, by decide +kernel⟩
noncomputable def ms_listed_0 : MS := (mRet (mCb fTuple (mCons (mCb m_listed_below (mCons (mV 0) (mCons (mOp (fAdd false) (mV 1) (mC (.int 1))) mNil))) mNil)))
theorem st_listed_0 (Fc : Facts K mg) (cdv : Value) (A : Around) (outer : List Env) (s : Shared) (H : Hp) (E : XK) (hr : Room (1) (A.deeper (envOfC "listed" (defScope s_listed) s.heap.objs.size Fc.a_listed cdv))) : PS (cxOf CX0 P w K mg base N_listed "listed" (defScope s_listed) Fc.a_listed cdv A outer s H E).nox (stmtAt (defBody s_listed) 0) (sM ⟨K, P, w⟩ (ms_listed_0)) :=
    (z_ret (x_ct c_tuple (by rfl) Fc.b_tuple bt_tuple (a_cons (x_call (ok_listed_below Fc) (hr.mono (by decide)) (by rfl) Fc.g_listed_below Fc.F_listed_below.kp (b_listed_below Fc) (a_cons (x_v 0) (a_cons (x_add false (x_v 1) x_int) a_nil))) a_nil)))
noncomputable def m_listed : List D → Sto → Option (D × Sto) := mDef 2 2 (ms_listed_0)
theorem ok_listed (Fc : Facts K mg) : FnOk P w K mg base CX0 2 Fc.a_listed Fc.d_listed ["amounts", "most"] (spM ⟨K, P, w⟩ m_listed) := x_def (k := 1) Fc.F_listed sc_listed rfl rfl fun cdv A outer s H E hr =>
    (z_one (st_listed_0 Fc cdv A outer s H E hr))
abbrev N_share : List Str := ["amounts", "common", "few", "first", "turn", "rests"]
theorem sc_share : FnScope N_share ["amounts"] (defScope s_share) := ⟨rfl, rfl, rfl, by decide +kernel, rfl, by decide +kernel, by decide +kernel⟩
noncomputable def ms_share_0 : MS := (mAsg (mV 0) (mgTup 4 (mgCons (mgT (.name 2)) (mgCons (mgT (.name 3)) (mgCons (mgT (.name 4)) (mgCons (mgT (.name 5)) mgNil))))))
theorem st_share_0 (Fc : Facts K mg) (cdv : Value) (A : Around) (outer : List Env) (s : Shared) (H : Hp) (E : XK) (hr : Room (0) (A.deeper (envOfC "share" (defScope s_share) s.heap.objs.size Fc.a_share cdv))) : PS (cxOf CX0 P w K mg base N_share "share" (defScope s_share) Fc.a_share cdv A outer s H E).nox (stmtAt (defBody s_share) 0) (sM ⟨K, P, w⟩ (ms_share_0)) :=
    (z_asg (x_v 0) (g_tup (n := 4) rfl (g_cons (g_T (t_name 2 sc_share.nd rfl (by first | exact Or.inl rfl | exact Or.inr rfl))) (g_cons (g_T (t_name 3 sc_share.nd rfl (by first | exact Or.inl rfl | exact Or.inr rfl))) (g_cons (g_T (t_name 4 sc_share.nd rfl (by first | exact Or.inl rfl | exact Or.inr rfl))) (g_cons (g_T (t_name 5 sc_share.nd rfl (by first | exact Or.inl rfl | exact Or.inr rfl))) g_nil))))))
noncomputable def ms_share_2 : MS := (mIfS (mTB (mOp fEq (mCb fLen (mCons (mV 5) mNil)) (mC (.int 0))))
    (mRet (mTup (mCons (mC (.int 0)) (mCons (mC (.int 1)) mNil))))
    mNext)
theorem st_share_2 (Fc : Facts K mg) (cdv : Value) (A : Around) (outer : List Env) (s : Shared) (H : Hp) (E : XK) (hr : Room (0) (A.deeper (envOfC "share" (defScope s_share) s.heap.objs.size Fc.a_share cdv))) : PS (cxOf CX0 P w K mg base N_share "share" (defScope s_share) Fc.a_share cdv A outer s H E).nox (stmtAt (defBody s_share) 1) (sM ⟨K, P, w⟩ (ms_share_2)) :=
    (z_if (y_k (k_eq hr) (x_cb c_len (by rfl) Fc.b_len bt_len (a_cons (x_v 5) a_nil)) x_int)
    (z_one (z_ret (x_tup (a_cons x_int (a_cons x_int a_nil)))))
    z_nil)
noncomputable def ms_share_4 : MS := (mAsg (mCb fGcd (mCons (mCb fLen (mCons (mV 5) mNil)) (mCons (mV 4) mNil))) (mgName 1))
theorem st_share_4 (Fc : Facts K mg) (cdv : Value) (A : Around) (outer : List Env) (s : Shared) (H : Hp) (E : XK) (hr : Room (0) (A.deeper (envOfC "share" (defScope s_share) s.heap.objs.size Fc.a_share cdv))) : PS (cxOf CX0 P w K mg base N_share "share" (defScope s_share) Fc.a_share cdv A outer s H E).nox (stmtAt (defBody s_share) 2) (sM ⟨K, P, w⟩ (ms_share_4)) :=
    (z_set 1 sc_share.nd rfl (by first | exact Or.inl rfl | exact Or.inr rfl) (x_cf c_gcd (by rfl) Fc.g_gcd (a_cons (x_cb c_len (by rfl) Fc.b_len bt_len (a_cons (x_v 5) a_nil)) (a_cons (x_v 4) a_nil))))
noncomputable def m_share : List D → Sto → Option (D × Sto) := mDef 6 1 (mSeq (ms_share_0)
    (mSeq (ms_share_2)
    (mSeq (ms_share_4)
    (mRet (mTup (mCons (mOp fDiv (mCb fLen (mCons (mV 5) mNil)) (mV 1)) (mCons (mOp fDiv (mV 4) (mV 1)) mNil)))))))
theorem ok_share (Fc : Facts K mg) : FnOk P w K mg base CX0 1 Fc.a_share Fc.d_share ["amounts"] (spM ⟨K, P, w⟩ m_share) := x_def (k := 0) Fc.F_share sc_share rfl rfl fun cdv A outer s H E hr =>
    (z_cons (st_share_0 Fc cdv A outer s H E hr)
    (z_cons (st_share_2 Fc cdv A outer s H E hr)
    (z_cons (st_share_4 Fc cdv A outer s H E hr)
    (z_one (z_ret (x_tup (a_cons (x_fdiv (x_cb c_len (by rfl) Fc.b_len bt_len (a_cons (x_v 5) a_nil)) (x_v 1)) (a_cons (x_fdiv (x_v 4) (x_v 1)) a_nil))))))))
abbrev N__law_vat : List Str := ["script", "mixed", "cell", "habits", "k"]
theorem sc__law_vat : FnScope N__law_vat ["script"] (defScope s__law_vat) := ⟨rfl, rfl, rfl, by decide +kernel, rfl, by decide +kernel, by decide +kernel⟩
noncomputable def ms__law_vat_0 : MS := (mAsg (mOp fMod (mCb fInt (mCons (mOp (fAdd false) (mOp (fAdd false) (mOp (fMul false) (mV 1) (mC (.int 52457))) (mOp (fMul false) (mV 2) (mC (.int 43)))) (mC (.int 11))) mNil)) (mC (.int 2147483137))) (mgName 1))
theorem st__law_vat_0 (Fc : Facts K mg) (cdv : Value) (A : Around) (outer : List Env) (s : Shared) (H : Hp) (E : XK) (hr : Room (0) (A.deeper (envOfC "_law_vat" (defScope s__law_vat) s.heap.objs.size Fc.a__law_vat cdv))) : PS (cxOf CX0 P w K mg base N__law_vat "_law_vat" (defScope s__law_vat) Fc.a__law_vat cdv A outer s H E).nox (stmtAt (bodyOf (stmtAt (defBody s__law_vat) 1)) 0) (sM ⟨K, P, w⟩ (ms__law_vat_0)) :=
    (z_set 1 sc__law_vat.nd rfl (by first | exact Or.inl rfl | exact Or.inr rfl) (x_mod (x_ct c_int (by rfl) Fc.b_int bt_int (a_cons (x_add false (x_add false (x_mul false (x_v 1) x_int) (x_mul false (x_v 2) x_int)) x_int) a_nil)) x_int))
noncomputable def ms__law_vat_2 : MS := (mAsg (mOp fMod (mCb fInt (mCons (mOp (fAdd false) (mOp (fAdd false) (mOp (fMul false) (mV 1) (mC (.int 40009))) (mOp (fMul false) (mC (.int 17)) (mV 4))) (mC (.int 5))) mNil)) (mC (.int 2147483137))) (mgName 1))
theorem st__law_vat_2 (Fc : Facts K mg) (cdv : Value) (A : Around) (outer : List Env) (s : Shared) (H : Hp) (E : XK) (hr : Room (0) (A.deeper (envOfC "_law_vat" (defScope s__law_vat) s.heap.objs.size Fc.a__law_vat cdv))) : PS (cxOf CX0 P w K mg base N__law_vat "_law_vat" (defScope s__law_vat) Fc.a__law_vat cdv A outer s H E).nox (stmtAt (bodyOf (stmtAt (defBody s__law_vat) 3)) 0) (sM ⟨K, P, w⟩ (ms__law_vat_2)) :=
    (z_set 1 sc__law_vat.nd rfl (by first | exact Or.inl rfl | exact Or.inr rfl) (x_mod (x_ct c_int (by rfl) Fc.b_int bt_int (a_cons (x_add false (x_add false (x_mul false (x_v 1) x_int) (x_mul false x_int (x_v 4))) x_int) a_nil)) x_int))
noncomputable def ms__law_vat_4 : MS := (mFor (miSeq (mSl false (mV 0) mNone (mSome (mC (.int 61))))) (.name 2)
    (ms__law_vat_0))
theorem st__law_vat_4 (Fc : Facts K mg) (cdv : Value) (A : Around) (outer : List Env) (s : Shared) (H : Hp) (E : XK) (hr : Room (0) (A.deeper (envOfC "_law_vat" (defScope s__law_vat) s.heap.objs.size Fc.a__law_vat cdv))) : PS (cxOf CX0 P w K mg base N__law_vat "_law_vat" (defScope s__law_vat) Fc.a__law_vat cdv A outer s H E).nox (stmtAt (defBody s__law_vat) 1) (sM ⟨K, P, w⟩ (ms__law_vat_4)) :=
    (z_for PassesOwn.never rfl (i_seq (x_sl false (x_v 0) o_none (o_some x_int))) (t_name 2 sc__law_vat.nd rfl (by first | exact Or.inl rfl | exact Or.inr rfl))
    (z_one (st__law_vat_0 Fc cdv A outer s H E hr)))
noncomputable def ms__law_vat_6 : MS := (mFor (miRng1 (mCons (mC (.int 8)) mNil)) (.name 4)
    (mSeq (ms__law_vat_2)
    (mDrop (mMt fAppend (mV 3) (mCons (mOp fMod (mCb fInt (mCons (mOp fDiv (mV 1) (mC (.int 97))) mNil)) (mC (.int 11))) mNil)))))
theorem st__law_vat_6 (Fc : Facts K mg) (cdv : Value) (A : Around) (outer : List Env) (s : Shared) (H : Hp) (E : XK) (hr : Room (0) (A.deeper (envOfC "_law_vat" (defScope s__law_vat) s.heap.objs.size Fc.a__law_vat cdv))) : PS (cxOf CX0 P w K mg base N__law_vat "_law_vat" (defScope s__law_vat) Fc.a__law_vat cdv A outer s H E).nox (stmtAt (defBody s__law_vat) 3) (sM ⟨K, P, w⟩ (ms__law_vat_6)) :=
    (z_for PassesOwn.never rfl (i_rng1 (by rfl) Fc.b_range (a_cons x_int a_nil)) (t_name 4 sc__law_vat.nd rfl (by first | exact Or.inl rfl | exact Or.inr rfl))
    (z_cons (st__law_vat_2 Fc cdv A outer s H E hr)
    (z_one (z_expr (x_append (x_v 3) (a_cons (x_mod (x_ct c_int (by rfl) Fc.b_int bt_int (a_cons (x_fdiv (x_v 1) x_int) a_nil)) x_int) a_nil))))))
noncomputable def ms__law_vat_8 : MS := (mRet (mLst true (mCons (mLc true (miSeq (mSl false (mV 0) mNone (mSome (mC (.int 61))))) (.name 2) (mTB (mOp fGe (mV 2) (mOp fPow (mC (.int 10)) (mC (.int 18))))) (mCb fInt (mCons (mV 2) mNil)) [2]) (mCons (mC (.int 0)) (mCons (mV 1) (mCons (mC (.int 0)) (mCons (mV 3) mNil)))))))
theorem st__law_vat_8 (Fc : Facts K mg) (cdv : Value) (A : Around) (outer : List Env) (s : Shared) (H : Hp) (E : XK) (hr : Room (0) (A.deeper (envOfC "_law_vat" (defScope s__law_vat) s.heap.objs.size Fc.a__law_vat cdv))) : PS (cxOf CX0 P w K mg base N__law_vat "_law_vat" (defScope s__law_vat) Fc.a__law_vat cdv A outer s H E).nox (stmtAt (defBody s__law_vat) 4) (sM ⟨K, P, w⟩ (ms__law_vat_8)) :=
    (z_ret (x_lst true (a_cons (x_lc true (T := (.name 2)) (own := [("cell", 2)]) rfl sc__law_vat.nd (i_seq (x_sl false (x_v 0) o_none (o_some x_int))) (by first | exact blkOk_by (N := N__law_vat) (sc := defScope s__law_vat) (by decide +kernel) | exact blkOk_by (by kernel_rfl)) rfl (fun _ _ _ _ _ => (t_name 2 sc__law_vat.nd rfl (by first | exact Or.inl rfl | exact Or.inr rfl))) (fun _ _ _ _ _ => (cs_one (y_k k_ge (x_v 2) (x_pow x_int x_int)))) (fun _ _ _ _ _ => (x_ct c_int (by rfl) Fc.b_int bt_int (a_cons (x_v 2) a_nil)))) (a_cons x_int (a_cons (x_v 1) (a_cons x_int (a_cons (x_v 3) a_nil)))))))
noncomputable def m__law_vat : List D → Sto → Option (D × Sto) := mDef 5 1 (mSeq (mAsg (mC (.int 5011)) (mgName 1))
    (mSeq (ms__law_vat_4)
    (mSeq (mAsg (mLst true mNil) (mgName 3))
    (mSeq (ms__law_vat_6)
    (ms__law_vat_8)))))
theorem ok__law_vat (Fc : Facts K mg) : FnOk P w K mg base CX0 1 Fc.a__law_vat Fc.d__law_vat ["script"] (spM ⟨K, P, w⟩ m__law_vat) := x_def (k := 0) Fc.F__law_vat sc__law_vat rfl rfl fun cdv A outer s H E hr =>
    (z_cons (z_set 1 sc__law_vat.nd rfl (by first | exact Or.inl rfl | exact Or.inr rfl) x_int)
    (z_cons (st__law_vat_4 Fc cdv A outer s H E hr)
    (z_cons (z_set 3 sc__law_vat.nd rfl (by first | exact Or.inl rfl | exact Or.inr rfl) (x_lst true a_nil))
    (z_cons (st__law_vat_6 Fc cdv A outer s H E hr)
    (z_one (st__law_vat_8 Fc cdv A outer s H E hr))))))
abbrev N__law_draw : List Str := ["vat", "place", "many", "habit", "row", "worth"]
theorem sc__law_draw : FnScope N__law_draw ["vat", "place", "many"] (defScope s__law_draw) := ⟨rfl, rfl, rfl, by decide +kernel, rfl, by decide +kernel, by decide +kernel⟩
noncomputable def ms__law_draw_0 : MS := (mAsg (mTup (mCons (mOp fMod (mCb fInt (mCons (mOp fIx (mV 4) (mC (.int 0))) mNil)) (mV 2)) (mCons (mOp fDiv (mOp fIx (mV 4) (mC (.int 0))) (mV 2)) (mCons (mOp (fAdd false) (mOp fIx (mV 0) (mC (.int 1))) (mC (.int 1))) mNil)))) (mgTup 3 (mgCons (mgT (.name 5)) (mgCons (mgSub (mV 4) (mC (.int 0)) fSetL) (mgCons (mgSub (mV 0) (mC (.int 1)) fSetL) mgNil)))))
theorem st__law_draw_0 (Fc : Facts K mg) (cdv : Value) (A : Around) (outer : List Env) (s : Shared) (H : Hp) (E : XK) (hr : Room (0) (A.deeper (envOfC "_law_draw" (defScope s__law_draw) s.heap.objs.size Fc.a__law_draw cdv))) : PS (cxOf CX0 P w K mg base N__law_draw "_law_draw" (defScope s__law_draw) Fc.a__law_draw cdv A outer s H E).nox (stmtAt (bodyOf (stmtAt (defBody s__law_draw) 2)) 0) (sM ⟨K, P, w⟩ (ms__law_draw_0)) :=
    (z_asg (x_tup (a_cons (x_mod (x_ct c_int (by rfl) Fc.b_int bt_int (a_cons (x_ix (x_v 4) x_int) a_nil)) (x_v 2)) (a_cons (x_fdiv (x_ix (x_v 4) x_int) (x_v 2)) (a_cons (x_add false (x_ix (x_v 0) x_int) x_int) a_nil)))) (g_tup (n := 3) rfl (g_cons (g_T (t_name 5 sc__law_draw.nd rfl (by first | exact Or.inl rfl | exact Or.inr rfl))) (g_cons (g_sub (x_v 4) x_int) (g_cons (g_sub (x_v 0) x_int) g_nil)))))
noncomputable def ms__law_draw_2 : MS := (mIfS (mOr (mTB (mOp fEq (mOp fIx (mV 4) (mC (.int 0))) (mC (.int 0)))) (mTB (mOp fGe (mOp fIx (mV 0) (mC (.int 1))) (mC (.int 60)))))
    (mSeq (mDrop (mMt fPop (mV 4) (mCons (mC (.int 0)) mNil)))
    (mAsg (mC (.int 0)) (mgSub (mV 0) (mC (.int 1)) fSetL)))
    mNext)
theorem st__law_draw_2 (Fc : Facts K mg) (cdv : Value) (A : Around) (outer : List Env) (s : Shared) (H : Hp) (E : XK) (hr : Room (0) (A.deeper (envOfC "_law_draw" (defScope s__law_draw) s.heap.objs.size Fc.a__law_draw cdv))) : PS (cxOf CX0 P w K mg base N__law_draw "_law_draw" (defScope s__law_draw) Fc.a__law_draw cdv A outer s H E).nox (stmtAt (bodyOf (stmtAt (defBody s__law_draw) 2)) 1) (sM ⟨K, P, w⟩ (ms__law_draw_2)) :=
    (z_if (y_or (y_k (k_eq hr) (x_ix (x_v 4) x_int) x_int) (y_or1 (y_k k_ge (x_ix (x_v 0) x_int) x_int))).pt
    (z_cons (z_expr (x_popi (x_v 4) (a_cons x_int a_nil)))
    (z_one (z_asg x_int (g_sub (x_v 0) x_int))))
    z_nil)
noncomputable def ms__law_draw_4 : MS := (mAsg (mTup (mCons (mOp fIx (mV 0) (mC (.int 0))) (mCons (mOp (fAdd false) (mOp fIx (mV 0) (mC (.int 3))) (mC (.int 1))) mNil))) (mgTup 2 (mgCons (mgT (.name 4)) (mgCons (mgSub (mV 0) (mC (.int 3)) fSetL) mgNil))))
theorem st__law_draw_4 (Fc : Facts K mg) (cdv : Value) (A : Around) (outer : List Env) (s : Shared) (H : Hp) (E : XK) (hr : Room (0) (A.deeper (envOfC "_law_draw" (defScope s__law_draw) s.heap.objs.size Fc.a__law_draw cdv))) : PS (cxOf CX0 P w K mg base N__law_draw "_law_draw" (defScope s__law_draw) Fc.a__law_draw cdv A outer s H E).nox (stmtAt (defBody s__law_draw) 1) (sM ⟨K, P, w⟩ (ms__law_draw_4)) :=
    (z_asg (x_tup (a_cons (x_ix (x_v 0) x_int) (a_cons (x_add false (x_ix (x_v 0) x_int) x_int) a_nil))) (g_tup (n := 2) rfl (g_cons (g_T (t_name 4 sc__law_draw.nd rfl (by first | exact Or.inl rfl | exact Or.inr rfl))) (g_cons (g_sub (x_v 0) x_int) g_nil))))
noncomputable def ms__law_draw_6 : MS := (mIfS (mT (mV 4))
    (mSeq (ms__law_draw_0)
    (mSeq (ms__law_draw_2)
    (mRet (mV 5))))
    mNext)
theorem st__law_draw_6 (Fc : Facts K mg) (cdv : Value) (A : Around) (outer : List Env) (s : Shared) (H : Hp) (E : XK) (hr : Room (0) (A.deeper (envOfC "_law_draw" (defScope s__law_draw) s.heap.objs.size Fc.a__law_draw cdv))) : PS (cxOf CX0 P w K mg base N__law_draw "_law_draw" (defScope s__law_draw) Fc.a__law_draw cdv A outer s H E).nox (stmtAt (defBody s__law_draw) 2) (sM ⟨K, P, w⟩ (ms__law_draw_6)) :=
    (z_if (y_t (x_v 4))
    (z_cons (st__law_draw_0 Fc cdv A outer s H E hr)
    (z_cons (st__law_draw_2 Fc cdv A outer s H E hr)
    (z_one (z_ret (x_v 5)))))
    z_nil)
noncomputable def ms__law_draw_8 : MS := (mAsg (mOp fMod (mCb fInt (mCons (mOp (fAdd false) (mOp (fAdd false) (mOp (fMul false) (mOp fIx (mV 0) (mC (.int 2))) (mC (.int 48271))) (mOp (fMul false) (mOp fIx (mV 0) (mC (.int 3))) (mC (.int 65539)))) (mC (.int 3))) mNil)) (mC (.int 2147483137))) (mgSub (mV 0) (mC (.int 2)) fSetL))
theorem st__law_draw_8 (Fc : Facts K mg) (cdv : Value) (A : Around) (outer : List Env) (s : Shared) (H : Hp) (E : XK) (hr : Room (0) (A.deeper (envOfC "_law_draw" (defScope s__law_draw) s.heap.objs.size Fc.a__law_draw cdv))) : PS (cxOf CX0 P w K mg base N__law_draw "_law_draw" (defScope s__law_draw) Fc.a__law_draw cdv A outer s H E).nox (stmtAt (defBody s__law_draw) 3) (sM ⟨K, P, w⟩ (ms__law_draw_8)) :=
    (z_asg (x_mod (x_ct c_int (by rfl) Fc.b_int bt_int (a_cons (x_add false (x_add false (x_mul false (x_ix (x_v 0) x_int) x_int) (x_mul false (x_ix (x_v 0) x_int) x_int)) x_int) a_nil)) x_int) (g_sub (x_v 0) x_int))
noncomputable def m__law_draw : List D → Sto → Option (D × Sto) := mDef 6 3 (mSeq (mIfS (mTB (mOp fLt (mV 2) (mC (.int 2))))
    (mRet (mC (.int 0)))
    mNext)
    (mSeq (ms__law_draw_4)
    (mSeq (ms__law_draw_6)
    (mSeq (ms__law_draw_8)
    (mSeq (mAsg (mOp fIx (mOp fIx (mV 0) (mC (.int 4))) (mV 1)) (mgName 3))
    (mSeq (mIfS (mTB (mOp fLt (mV 3) (mC (.int 2))))
    (mRet (mOp (fMul false) (mV 3) (mOp fSub (mV 2) (mC (.int 1)))))
    mNext)
    (mRet (mOp fMod (mCb fInt (mCons (mOp fDiv (mOp fIx (mV 0) (mC (.int 2))) (mC (.int 19))) mNil)) (mV 2)))))))))
theorem ok__law_draw (Fc : Facts K mg) : FnOk P w K mg base CX0 1 Fc.a__law_draw Fc.d__law_draw ["vat", "place", "many"] (spM ⟨K, P, w⟩ m__law_draw) := x_def (k := 0) Fc.F__law_draw sc__law_draw rfl rfl fun cdv A outer s H E hr =>
    (z_cons (z_if (y_k k_lt (x_v 2) x_int)
    (z_one (z_ret x_int))
    z_nil)
    (z_cons (st__law_draw_4 Fc cdv A outer s H E hr)
    (z_cons (st__law_draw_6 Fc cdv A outer s H E hr)
    (z_cons (st__law_draw_8 Fc cdv A outer s H E hr)
    (z_cons (z_set 3 sc__law_draw.nd rfl (by first | exact Or.inl rfl | exact Or.inr rfl) (x_ix (x_ix (x_v 0) x_int) (x_v 1)))
    (z_cons (z_if (y_k k_lt (x_v 3) x_int)
    (z_one (z_ret (x_mul false (x_v 3) (x_sub (x_v 2) x_int))))
    z_nil)
    (z_one (z_ret (x_mod (x_ct c_int (by rfl) Fc.b_int bt_int (a_cons (x_fdiv (x_ix (x_v 0) x_int) x_int) a_nil)) (x_v 2))))))))))
abbrev N__law_same : List Str := ["told", "due", "waiting", "one", "other", "at"]
theorem sc__law_same : FnScope N__law_same ["told", "due"] (defScope s__law_same) := ⟨rfl, rfl, rfl, by decide +kernel, rfl, by decide +kernel, by decide +kernel⟩
noncomputable def ms__law_same_0 : MS := (mIfS (mOr (mNot (mT (mCb fIsi (mCons (mV 3) (mCons (mC (.ty "bool")) mNil))))) (mTB (mOp fNe (mV 3) (mV 4))))
    (mRet (mC (.bl false)))
    mNext)
theorem st__law_same_0 (Fc : Facts K mg) (cdv : Value) (A : Around) (outer : List Env) (s : Shared) (H : Hp) (E : XK) (hr : Room (0) (A.deeper (envOfC "_law_same" (defScope s__law_same) s.heap.objs.size Fc.a__law_same cdv))) : PS (cxOf CX0 P w K mg base N__law_same "_law_same" (defScope s__law_same) Fc.a__law_same cdv A outer s H E).nox (stmtAt (bodyOf (stmtAt (elseOf (stmtAt (bodyOf (stmtAt (defBody s__law_same) 1)) 1)) 0)) 0) (sM ⟨K, P, w⟩ (ms__law_same_0)) :=
    (z_if (y_or (y_not (y_t (x_cb c_isi (by rfl) Fc.b_isinstance bt_isinstance (a_cons (x_v 3) (a_cons (x_ty (by rfl) Fc.b_bool bt_bool) a_nil))))) (y_or1 (y_k (k_ne hr) (x_v 3) (x_v 4)))).pt
    (z_one (z_ret x_bl))
    z_nil)
noncomputable def ms__law_same_2 : MS := (mIfS (mOr (mNot (mT (mCb fIsi (mCons (mV 3) (mCons (mC (.ty "int")) mNil))))) (mOr (mT (mCb fIsi (mCons (mV 3) (mCons (mC (.ty "bool")) mNil)))) (mTB (mOp fNe (mV 3) (mV 4)))))
    (mRet (mC (.bl false)))
    mNext)
theorem st__law_same_2 (Fc : Facts K mg) (cdv : Value) (A : Around) (outer : List Env) (s : Shared) (H : Hp) (E : XK) (hr : Room (0) (A.deeper (envOfC "_law_same" (defScope s__law_same) s.heap.objs.size Fc.a__law_same cdv))) : PS (cxOf CX0 P w K mg base N__law_same "_law_same" (defScope s__law_same) Fc.a__law_same cdv A outer s H E).nox (stmtAt (bodyOf (stmtAt (elseOf (stmtAt (elseOf (stmtAt (bodyOf (stmtAt (defBody s__law_same) 1)) 1)) 0)) 0)) 0) (sM ⟨K, P, w⟩ (ms__law_same_2)) :=
    (z_if (y_or (y_not (y_t (x_cb c_isi (by rfl) Fc.b_isinstance bt_isinstance (a_cons (x_v 3) (a_cons (x_ty (by rfl) Fc.b_int bt_int) a_nil))))) (y_or (y_t (x_cb c_isi (by rfl) Fc.b_isinstance bt_isinstance (a_cons (x_v 3) (a_cons (x_ty (by rfl) Fc.b_bool bt_bool) a_nil)))) (y_or1 (y_k (k_ne hr) (x_v 3) (x_v 4))))).pt
    (z_one (z_ret x_bl))
    z_nil)
noncomputable def ms__law_same_4 : MS := (mIfS (mOr (mNot (mT (mCb fIsi (mCons (mV 3) (mCons (mC (.ty "str")) mNil))))) (mTB (mOp fNe (mV 3) (mV 4))))
    (mRet (mC (.bl false)))
    mNext)
theorem st__law_same_4 (Fc : Facts K mg) (cdv : Value) (A : Around) (outer : List Env) (s : Shared) (H : Hp) (E : XK) (hr : Room (0) (A.deeper (envOfC "_law_same" (defScope s__law_same) s.heap.objs.size Fc.a__law_same cdv))) : PS (cxOf CX0 P w K mg base N__law_same "_law_same" (defScope s__law_same) Fc.a__law_same cdv A outer s H E).nox (stmtAt (bodyOf (stmtAt (elseOf (stmtAt (elseOf (stmtAt (elseOf (stmtAt (bodyOf (stmtAt (defBody s__law_same) 1)) 1)) 0)) 0)) 0)) 0) (sM ⟨K, P, w⟩ (ms__law_same_4)) :=
    (z_if (y_or (y_not (y_t (x_cb c_isi (by rfl) Fc.b_isinstance bt_isinstance (a_cons (x_v 3) (a_cons (x_ty (by rfl) Fc.b_str bt_str) a_nil))))) (y_or1 (y_k (k_ne hr) (x_v 3) (x_v 4)))).pt
    (z_one (z_ret x_bl))
    z_nil)
noncomputable def ms__law_same_6 : MS := (mIfS (mOr (mAnd (mT (mCb fIsi (mCons (mV 4) (mCons (mC (.ty "list")) mNil)))) (mNot (mT (mCb fIsi (mCons (mV 3) (mCons (mC (.ty "list")) mNil)))))) (mAnd (mT (mCb fIsi (mCons (mV 4) (mCons (mC (.ty "tuple")) mNil)))) (mNot (mT (mCb fIsi (mCons (mV 3) (mCons (mC (.ty "tuple")) mNil)))))))
    (mRet (mC (.bl false)))
    mNext)
theorem st__law_same_6 (Fc : Facts K mg) (cdv : Value) (A : Around) (outer : List Env) (s : Shared) (H : Hp) (E : XK) (hr : Room (0) (A.deeper (envOfC "_law_same" (defScope s__law_same) s.heap.objs.size Fc.a__law_same cdv))) : PS (cxOf CX0 P w K mg base N__law_same "_law_same" (defScope s__law_same) Fc.a__law_same cdv A outer s H E).nox (stmtAt (elseOf (stmtAt (elseOf (stmtAt (elseOf (stmtAt (elseOf (stmtAt (bodyOf (stmtAt (defBody s__law_same) 1)) 1)) 0)) 0)) 0)) 0) (sM ⟨K, P, w⟩ (ms__law_same_6)) :=
    (z_if (y_or (y_and (y_t (x_cb c_isi (by rfl) Fc.b_isinstance bt_isinstance (a_cons (x_v 4) (a_cons (x_ty (by rfl) Fc.b_list bt_list) a_nil)))) (y_and1 (y_not (y_t (x_cb c_isi (by rfl) Fc.b_isinstance bt_isinstance (a_cons (x_v 3) (a_cons (x_ty (by rfl) Fc.b_list bt_list) a_nil))))))).pt (y_or1 (y_and (y_t (x_cb c_isi (by rfl) Fc.b_isinstance bt_isinstance (a_cons (x_v 4) (a_cons (x_ty (by rfl) Fc.b_tuple bt_tuple) a_nil)))) (y_and1 (y_not (y_t (x_cb c_isi (by rfl) Fc.b_isinstance bt_isinstance (a_cons (x_v 3) (a_cons (x_ty (by rfl) Fc.b_tuple bt_tuple) a_nil))))))).pt)).pt
    (z_one (z_ret x_bl))
    z_nil)
noncomputable def ms__law_same_8 : MS := (mIfS (mTB (mOp fNe (mCb fLen (mCons (mV 3) mNil)) (mCb fLen (mCons (mV 4) mNil))))
    (mRet (mC (.bl false)))
    mNext)
theorem st__law_same_8 (Fc : Facts K mg) (cdv : Value) (A : Around) (outer : List Env) (s : Shared) (H : Hp) (E : XK) (hr : Room (0) (A.deeper (envOfC "_law_same" (defScope s__law_same) s.heap.objs.size Fc.a__law_same cdv))) : PS (cxOf CX0 P w K mg base N__law_same "_law_same" (defScope s__law_same) Fc.a__law_same cdv A outer s H E).nox (stmtAt (elseOf (stmtAt (elseOf (stmtAt (elseOf (stmtAt (elseOf (stmtAt (bodyOf (stmtAt (defBody s__law_same) 1)) 1)) 0)) 0)) 0)) 1) (sM ⟨K, P, w⟩ (ms__law_same_8)) :=
    (z_if (y_k (k_ne hr) (x_cb c_len (by rfl) Fc.b_len bt_len (a_cons (x_v 3) a_nil)) (x_cb c_len (by rfl) Fc.b_len bt_len (a_cons (x_v 4) a_nil)))
    (z_one (z_ret x_bl))
    z_nil)
noncomputable def ms__law_same_10 : MS := (mDrop (mMt fExtend (mV 2) (mCons (mLc false (miRng1 (mCons (mCb fLen (mCons (mV 4) mNil)) mNil)) (.name 5) mYes (mTup (mCons (mOp fIx (mV 3) (mV 5)) (mCons (mOp fIx (mV 4) (mV 5)) mNil))) [5]) mNil)))
theorem st__law_same_10 (Fc : Facts K mg) (cdv : Value) (A : Around) (outer : List Env) (s : Shared) (H : Hp) (E : XK) (hr : Room (0) (A.deeper (envOfC "_law_same" (defScope s__law_same) s.heap.objs.size Fc.a__law_same cdv))) : PS (cxOf CX0 P w K mg base N__law_same "_law_same" (defScope s__law_same) Fc.a__law_same cdv A outer s H E).nox (stmtAt (elseOf (stmtAt (elseOf (stmtAt (elseOf (stmtAt (elseOf (stmtAt (bodyOf (stmtAt (defBody s__law_same) 1)) 1)) 0)) 0)) 0)) 2) (sM ⟨K, P, w⟩ (ms__law_same_10)) :=
    (z_expr (x_extend (x_v 2) (a_cons (x_lc false (T := (.name 5)) (own := [("at", 5)]) rfl sc__law_same.nd (i_rng1 (by rfl) Fc.b_range (a_cons (x_cb c_len (by rfl) Fc.b_len bt_len (a_cons (x_v 4) a_nil)) a_nil)) (by first | exact blkOk_by (N := N__law_same) (sc := defScope s__law_same) (by decide +kernel) | exact blkOk_by (by kernel_rfl)) rfl (fun _ _ _ _ _ => (t_name 5 sc__law_same.nd rfl (by first | exact Or.inl rfl | exact Or.inr rfl))) (fun _ _ _ _ _ => cs_nil) (fun _ _ _ _ _ => (x_tup (a_cons (x_ix (x_v 3) (x_v 5)) (a_cons (x_ix (x_v 4) (x_v 5)) a_nil))))) a_nil)))
noncomputable def ms__law_same_12 : MS := (mIfS (mT (mCb fIsi (mCons (mV 4) (mCons (mC (.ty "str")) mNil))))
    (ms__law_same_4)
    (mSeq (ms__law_same_6)
    (mSeq (ms__law_same_8)
    (ms__law_same_10))))
theorem st__law_same_12 (Fc : Facts K mg) (cdv : Value) (A : Around) (outer : List Env) (s : Shared) (H : Hp) (E : XK) (hr : Room (0) (A.deeper (envOfC "_law_same" (defScope s__law_same) s.heap.objs.size Fc.a__law_same cdv))) : PS (cxOf CX0 P w K mg base N__law_same "_law_same" (defScope s__law_same) Fc.a__law_same cdv A outer s H E).nox (stmtAt (elseOf (stmtAt (elseOf (stmtAt (elseOf (stmtAt (bodyOf (stmtAt (defBody s__law_same) 1)) 1)) 0)) 0)) 0) (sM ⟨K, P, w⟩ (ms__law_same_12)) :=
    (z_if (y_t (x_cb c_isi (by rfl) Fc.b_isinstance bt_isinstance (a_cons (x_v 4) (a_cons (x_ty (by rfl) Fc.b_str bt_str) a_nil))))
    (z_one (st__law_same_4 Fc cdv A outer s H E hr))
    (z_cons (st__law_same_6 Fc cdv A outer s H E hr)
    (z_cons (st__law_same_8 Fc cdv A outer s H E hr)
    (z_one (st__law_same_10 Fc cdv A outer s H E hr)))))
noncomputable def ms__law_same_14 : MS := (mIfS (mT (mCb fIsi (mCons (mV 4) (mCons (mC (.ty "int")) mNil))))
    (ms__law_same_2)
    (ms__law_same_12))
theorem st__law_same_14 (Fc : Facts K mg) (cdv : Value) (A : Around) (outer : List Env) (s : Shared) (H : Hp) (E : XK) (hr : Room (0) (A.deeper (envOfC "_law_same" (defScope s__law_same) s.heap.objs.size Fc.a__law_same cdv))) : PS (cxOf CX0 P w K mg base N__law_same "_law_same" (defScope s__law_same) Fc.a__law_same cdv A outer s H E).nox (stmtAt (elseOf (stmtAt (elseOf (stmtAt (bodyOf (stmtAt (defBody s__law_same) 1)) 1)) 0)) 0) (sM ⟨K, P, w⟩ (ms__law_same_14)) :=
    (z_if (y_t (x_cb c_isi (by rfl) Fc.b_isinstance bt_isinstance (a_cons (x_v 4) (a_cons (x_ty (by rfl) Fc.b_int bt_int) a_nil))))
    (z_one (st__law_same_2 Fc cdv A outer s H E hr))
    (z_one (st__law_same_12 Fc cdv A outer s H E hr)))
noncomputable def ms__law_same_16 : MS := (mIfS (mT (mCb fIsi (mCons (mV 4) (mCons (mC (.ty "bool")) mNil))))
    (ms__law_same_0)
    (ms__law_same_14))
theorem st__law_same_16 (Fc : Facts K mg) (cdv : Value) (A : Around) (outer : List Env) (s : Shared) (H : Hp) (E : XK) (hr : Room (0) (A.deeper (envOfC "_law_same" (defScope s__law_same) s.heap.objs.size Fc.a__law_same cdv))) : PS (cxOf CX0 P w K mg base N__law_same "_law_same" (defScope s__law_same) Fc.a__law_same cdv A outer s H E).nox (stmtAt (elseOf (stmtAt (bodyOf (stmtAt (defBody s__law_same) 1)) 1)) 0) (sM ⟨K, P, w⟩ (ms__law_same_16)) :=
    (z_if (y_t (x_cb c_isi (by rfl) Fc.b_isinstance bt_isinstance (a_cons (x_v 4) (a_cons (x_ty (by rfl) Fc.b_bool bt_bool) a_nil))))
    (z_one (st__law_same_0 Fc cdv A outer s H E hr))
    (z_one (st__law_same_14 Fc cdv A outer s H E hr)))
noncomputable def ms__law_same_18 : MS := (mAsg (mMt fPop (mV 2) mNil) (mgTup 2 (mgCons (mgT (.name 3)) (mgCons (mgT (.name 4)) mgNil))))
theorem st__law_same_18 (Fc : Facts K mg) (cdv : Value) (A : Around) (outer : List Env) (s : Shared) (H : Hp) (E : XK) (hr : Room (0) (A.deeper (envOfC "_law_same" (defScope s__law_same) s.heap.objs.size Fc.a__law_same cdv))) : PS (cxOf CX0 P w K mg base N__law_same "_law_same" (defScope s__law_same) Fc.a__law_same cdv A outer s H E).nox (stmtAt (bodyOf (stmtAt (defBody s__law_same) 1)) 0) (sM ⟨K, P, w⟩ (ms__law_same_18)) :=
    (z_asg (x_pop (x_v 2)) (g_tup (n := 2) rfl (g_cons (g_T (t_name 3 sc__law_same.nd rfl (by first | exact Or.inl rfl | exact Or.inr rfl))) (g_cons (g_T (t_name 4 sc__law_same.nd rfl (by first | exact Or.inl rfl | exact Or.inr rfl))) g_nil))))
noncomputable def ms__law_same_20 : MS := (mIfS (mTB (mOp (fIsN false) (mV 4) (mC .non)))
    (mIfS (mTB (mOp (fIsN true) (mV 3) (mC .non)))
    (mRet (mC (.bl false)))
    mNext)
    (ms__law_same_16))
theorem st__law_same_20 (Fc : Facts K mg) (cdv : Value) (A : Around) (outer : List Env) (s : Shared) (H : Hp) (E : XK) (hr : Room (0) (A.deeper (envOfC "_law_same" (defScope s__law_same) s.heap.objs.size Fc.a__law_same cdv))) : PS (cxOf CX0 P w K mg base N__law_same "_law_same" (defScope s__law_same) Fc.a__law_same cdv A outer s H E).nox (stmtAt (bodyOf (stmtAt (defBody s__law_same) 1)) 1) (sM ⟨K, P, w⟩ (ms__law_same_20)) :=
    (z_if (y_k k_is (x_v 4) x_non)
    (z_one (z_if (y_k k_isnot (x_v 3) x_non)
    (z_one (z_ret x_bl))
    z_nil))
    (z_one (st__law_same_16 Fc cdv A outer s H E hr)))
noncomputable def ms__law_same_22 : MS := (mAsg (mLst true (mCons (mTup (mCons (mV 0) (mCons (mV 1) mNil))) mNil)) (mgName 2))
theorem st__law_same_22 (Fc : Facts K mg) (cdv : Value) (A : Around) (outer : List Env) (s : Shared) (H : Hp) (E : XK) (hr : Room (0) (A.deeper (envOfC "_law_same" (defScope s__law_same) s.heap.objs.size Fc.a__law_same cdv))) : PS (cxOf CX0 P w K mg base N__law_same "_law_same" (defScope s__law_same) Fc.a__law_same cdv A outer s H E).nox (stmtAt (defBody s__law_same) 0) (sM ⟨K, P, w⟩ (ms__law_same_22)) :=
    (z_set 2 sc__law_same.nd rfl (by first | exact Or.inl rfl | exact Or.inr rfl) (x_lst true (a_cons (x_tup (a_cons (x_v 0) (a_cons (x_v 1) a_nil))) a_nil)))
noncomputable def m__law_same : List D → Sto → Option (D × Sto) := mDef 6 2 (mSeq (ms__law_same_22)
    (mSeq (mWh (mT (mV 2))
    (mSeq (ms__law_same_18)
    (ms__law_same_20)))
    (mRet (mC (.bl true)))))
theorem ok__law_same (Fc : Facts K mg) : FnOk P w K mg base CX0 1 Fc.a__law_same Fc.d__law_same ["told", "due"] (spM ⟨K, P, w⟩ m__law_same) := x_def (k := 0) Fc.F__law_same sc__law_same rfl rfl fun cdv A outer s H E hr =>
    (z_cons (st__law_same_22 Fc cdv A outer s H E hr)
    (z_cons (z_while PassesOwn.never (y_t (x_v 2))
    (z_cons (st__law_same_18 Fc cdv A outer s H E hr)
    (z_one (st__law_same_20 Fc cdv A outer s H E hr))))
    (z_one (z_ret x_bl))))
abbrev N__law_form : List Str := ["few", "first", "turn", "rests", "marks", "rest", "members", "one", "least", "begin", "at", "row", "d"]
theorem sc__law_form : FnScope N__law_form ["few", "first", "turn", "rests"] (defScope s__law_form) := ⟨rfl, rfl, rfl, by decide +kernel, rfl, by decide +kernel, by decide +kernel⟩
noncomputable def ms__law_form_0 : MS := (mAsg (mCb (fSorted false) (mCons (mCb (fListK false) (mCons (mV 6) mNil)) mNil)) (mgName 11))
theorem st__law_form_0 (Fc : Facts K mg) (cdv : Value) (A : Around) (outer : List Env) (s : Shared) (H : Hp) (E : XK) (hr : Room (0) (A.deeper (envOfC "_law_form" (defScope s__law_form) s.heap.objs.size Fc.a__law_form cdv))) : PS (cxOf CX0 P w K mg base N__law_form "_law_form" (defScope s__law_form) Fc.a__law_form cdv A outer s H E).nox (stmtAt (bodyOf (stmtAt (defBody s__law_form) 4)) 0) (sM ⟨K, P, w⟩ (ms__law_form_0)) :=
    (z_set 11 sc__law_form.nd rfl (by first | exact Or.inl rfl | exact Or.inr rfl) (x_cb (c_sorted false) (by rfl) Fc.b_sorted bt_sorted (a_cons (x_ct (c_listK false) (by rfl) Fc.b_list bt_list (a_cons (x_v 6) a_nil)) a_nil)))
noncomputable def ms__law_form_2 : MS := (mRet (mTup (mCons (mCb fTuple (mCons (mV 11) mNil)) (mCons (mIf (mT (mV 11)) (mOp (fAdd false) (mOp fIx (mV 11) (mUn fNeg (mC (.int 1)))) (mC (.int 1))) (mC (.int 0))) (mCons (mC (.int 1)) (mCons (mTup mNil) mNil))))))
theorem st__law_form_2 (Fc : Facts K mg) (cdv : Value) (A : Around) (outer : List Env) (s : Shared) (H : Hp) (E : XK) (hr : Room (0) (A.deeper (envOfC "_law_form" (defScope s__law_form) s.heap.objs.size Fc.a__law_form cdv))) : PS (cxOf CX0 P w K mg base N__law_form "_law_form" (defScope s__law_form) Fc.a__law_form cdv A outer s H E).nox (stmtAt (bodyOf (stmtAt (defBody s__law_form) 4)) 1) (sM ⟨K, P, w⟩ (ms__law_form_2)) :=
    (z_ret (x_tup (a_cons (x_ct c_tuple (by rfl) Fc.b_tuple bt_tuple (a_cons (x_v 11) a_nil)) (a_cons (x_if (y_t (x_v 11)) (x_add false (x_ix (x_v 11) (x_neg x_int)) x_int) x_int) (a_cons x_int (a_cons (x_tup a_nil) a_nil))))))
noncomputable def ms__law_form_4 : MS := (mIfS (mT (mOp fIx (mV 4) (mOp fMod (mCb fInt (mCons (mV 10) mNil)) (mV 2))))
    (mAsg (mC (.bl true)) (mgSub (mV 6) (mV 10) fSetK))
    mNext)
theorem st__law_form_4 (Fc : Facts K mg) (cdv : Value) (A : Around) (outer : List Env) (s : Shared) (H : Hp) (E : XK) (hr : Room (0) (A.deeper (envOfC "_law_form" (defScope s__law_form) s.heap.objs.size Fc.a__law_form cdv))) : PS (cxOf CX0 P w K mg base N__law_form "_law_form" (defScope s__law_form) Fc.a__law_form cdv A outer s H E).nox (stmtAt (bodyOf (stmtAt (defBody s__law_form) 7)) 0) (sM ⟨K, P, w⟩ (ms__law_form_4)) :=
    (z_if (y_t (x_ix (x_v 4) (x_mod (x_ct c_int (by rfl) Fc.b_int bt_int (a_cons (x_v 10) a_nil)) (x_v 2))))
    (z_one (z_asg x_bl (g_subK hr (x_v 6) (x_v 10))))
    z_nil)
noncomputable def ms__law_form_6 : MS := (mFor (miSeq (mV 3)) (.name 5)
    (mAsg (mC (.bl true)) (mgSub (mV 4) (mOp fMod (mCb fInt (mCons (mV 5) mNil)) (mV 2)) fSetL)))
theorem st__law_form_6 (Fc : Facts K mg) (cdv : Value) (A : Around) (outer : List Env) (s : Shared) (H : Hp) (E : XK) (hr : Room (0) (A.deeper (envOfC "_law_form" (defScope s__law_form) s.heap.objs.size Fc.a__law_form cdv))) : PS (cxOf CX0 P w K mg base N__law_form "_law_form" (defScope s__law_form) Fc.a__law_form cdv A outer s H E).nox (stmtAt (defBody s__law_form) 1) (sM ⟨K, P, w⟩ (ms__law_form_6)) :=
    (z_for PassesOwn.never rfl (i_seq (x_v 3)) (t_name 5 sc__law_form.nd rfl (by first | exact Or.inl rfl | exact Or.inr rfl))
    (z_one (z_asg x_bl (g_sub (x_v 4) (x_mod (x_ct c_int (by rfl) Fc.b_int bt_int (a_cons (x_v 5) a_nil)) (x_v 2))))))
noncomputable def ms__law_form_8 : MS := (mFor (miSeq (mV 0)) (.name 7)
    (mAsg (mC (.bl true)) (mgSub (mV 6) (mV 7) fSetK)))
theorem st__law_form_8 (Fc : Facts K mg) (cdv : Value) (A : Around) (outer : List Env) (s : Shared) (H : Hp) (E : XK) (hr : Room (0) (A.deeper (envOfC "_law_form" (defScope s__law_form) s.heap.objs.size Fc.a__law_form cdv))) : PS (cxOf CX0 P w K mg base N__law_form "_law_form" (defScope s__law_form) Fc.a__law_form cdv A outer s H E).nox (stmtAt (defBody s__law_form) 3) (sM ⟨K, P, w⟩ (ms__law_form_8)) :=
    (z_for PassesOwn.never rfl (i_seq (x_v 0)) (t_name 7 sc__law_form.nd rfl (by first | exact Or.inl rfl | exact Or.inr rfl))
    (z_one (z_asg x_bl (g_subK hr (x_v 6) (x_v 7)))))
noncomputable def ms__law_form_10 : MS := (mAsg (mOp fIx (mLc false (miRng2 (mCons (mC (.int 1)) (mCons (mOp (fAdd false) (mV 2) (mC (.int 1))) mNil))) (.name 12) (mAnd (mTB (mOp fEq (mOp fMod (mCb fInt (mCons (mV 2) mNil)) (mV 12)) (mC (.int 0)))) (mTB (mOp fEq (mV 4) (mOp (fAdd false) (mSl false (mV 4) (mSome (mV 12)) mNone) (mSl false (mV 4) mNone (mSome (mV 12))))))) (mV 12) [12]) (mC (.int 0))) (mgName 8))
theorem st__law_form_10 (Fc : Facts K mg) (cdv : Value) (A : Around) (outer : List Env) (s : Shared) (H : Hp) (E : XK) (hr : Room (0) (A.deeper (envOfC "_law_form" (defScope s__law_form) s.heap.objs.size Fc.a__law_form cdv))) : PS (cxOf CX0 P w K mg base N__law_form "_law_form" (defScope s__law_form) Fc.a__law_form cdv A outer s H E).nox (stmtAt (defBody s__law_form) 5) (sM ⟨K, P, w⟩ (ms__law_form_10)) :=
    (z_set 8 sc__law_form.nd rfl (by first | exact Or.inl rfl | exact Or.inr rfl) (x_ix (x_lc false (T := (.name 12)) (own := [("d", 12)]) rfl sc__law_form.nd (i_rng2 (by rfl) Fc.b_range (a_cons x_int (a_cons (x_add false (x_v 2) x_int) a_nil))) (by first | exact blkOk_by (N := N__law_form) (sc := defScope s__law_form) (by decide +kernel) | exact blkOk_by (by kernel_rfl)) rfl (fun _ _ _ _ _ => (t_name 12 sc__law_form.nd rfl (by first | exact Or.inl rfl | exact Or.inr rfl))) (fun _ _ _ _ _ => (cs_one (y_and (y_k (k_eq hr) (x_mod (x_ct c_int (by rfl) Fc.b_int bt_int (a_cons (x_v 2) a_nil)) (x_v 12)) x_int) (y_and1 (y_k (k_eq hr) (x_v 4) (x_add false (x_sl false (x_v 4) (o_some (x_v 12)) o_none) (x_sl false (x_v 4) o_none (o_some (x_v 12))))))).pt)) (fun _ _ _ _ _ => (x_v 12))) x_int))
noncomputable def ms__law_form_12 : MS := (mAsg (mCb fMaxL (mCons (mOp (fAdd false) (mLst false (mCons (mV 1) mNil)) (mLc false (miSeq (mV 0)) (.name 7) mYes (mOp (fAdd false) (mV 7) (mC (.int 1))) [7])) mNil)) (mgName 9))
theorem st__law_form_12 (Fc : Facts K mg) (cdv : Value) (A : Around) (outer : List Env) (s : Shared) (H : Hp) (E : XK) (hr : Room (0) (A.deeper (envOfC "_law_form" (defScope s__law_form) s.heap.objs.size Fc.a__law_form cdv))) : PS (cxOf CX0 P w K mg base N__law_form "_law_form" (defScope s__law_form) Fc.a__law_form cdv A outer s H E).nox (stmtAt (defBody s__law_form) 6) (sM ⟨K, P, w⟩ (ms__law_form_12)) :=
    (z_set 9 sc__law_form.nd rfl (by first | exact Or.inl rfl | exact Or.inr rfl) (x_cb c_max (by rfl) Fc.b_max bt_max (a_cons (x_add false (x_lst false (a_cons (x_v 1) a_nil)) (x_lc false (T := (.name 7)) (own := [("one", 7)]) rfl sc__law_form.nd (i_seq (x_v 0)) (by first | exact blkOk_by (N := N__law_form) (sc := defScope s__law_form) (by decide +kernel) | exact blkOk_by (by kernel_rfl)) rfl (fun _ _ _ _ _ => (t_name 7 sc__law_form.nd rfl (by first | exact Or.inl rfl | exact Or.inr rfl))) (fun _ _ _ _ _ => cs_nil) (fun _ _ _ _ _ => (x_add false (x_v 7) x_int)))) a_nil)))
noncomputable def ms__law_form_14 : MS := (mFor (miRng2 (mCons (mV 1) (mCons (mV 9) mNil))) (.name 10)
    (ms__law_form_4))
theorem st__law_form_14 (Fc : Facts K mg) (cdv : Value) (A : Around) (outer : List Env) (s : Shared) (H : Hp) (E : XK) (hr : Room (0) (A.deeper (envOfC "_law_form" (defScope s__law_form) s.heap.objs.size Fc.a__law_form cdv))) : PS (cxOf CX0 P w K mg base N__law_form "_law_form" (defScope s__law_form) Fc.a__law_form cdv A outer s H E).nox (stmtAt (defBody s__law_form) 7) (sM ⟨K, P, w⟩ (ms__law_form_14)) :=
    (z_for PassesOwn.never rfl (i_rng2 (by rfl) Fc.b_range (a_cons (x_v 1) (a_cons (x_v 9) a_nil))) (t_name 10 sc__law_form.nd rfl (by first | exact Or.inl rfl | exact Or.inr rfl))
    (z_one (st__law_form_4 Fc cdv A outer s H E hr)))
noncomputable def ms__law_form_16 : MS := (mWh (mAnd (mTB (mOp fGt (mV 9) (mC (.int 0)))) (mTB (mOp fEq (mOp (fInK false) (mOp fSub (mV 9) (mC (.int 1))) (mV 6)) (mOp fIx (mV 4) (mOp fMod (mCb fInt (mCons (mOp fSub (mV 9) (mC (.int 1))) mNil)) (mV 2))))))
    (mAsg (mOp fSub (mV 9) (mC (.int 1))) (mgName 9)))
theorem st__law_form_16 (Fc : Facts K mg) (cdv : Value) (A : Around) (outer : List Env) (s : Shared) (H : Hp) (E : XK) (hr : Room (0) (A.deeper (envOfC "_law_form" (defScope s__law_form) s.heap.objs.size Fc.a__law_form cdv))) : PS (cxOf CX0 P w K mg base N__law_form "_law_form" (defScope s__law_form) Fc.a__law_form cdv A outer s H E).nox (stmtAt (defBody s__law_form) 8) (sM ⟨K, P, w⟩ (ms__law_form_16)) :=
    (z_while PassesOwn.never (y_and (y_k k_gt (x_v 9) x_int) (y_and1 (y_k (k_eq hr) (x_k (k_inK hr) (x_sub (x_v 9) x_int) (x_v 6)) (x_ix (x_v 4) (x_mod (x_ct c_int (by rfl) Fc.b_int bt_int (a_cons (x_sub (x_v 9) x_int) a_nil)) (x_v 2)))))).pt
    (z_one (z_set 9 sc__law_form.nd rfl (by first | exact Or.inl rfl | exact Or.inr rfl) (x_sub (x_v 9) x_int))))
noncomputable def ms__law_form_18 : MS := (mRet (mTup (mCons (mCb fTuple (mCons (mCb (fSorted false) (mCons (mLkE 6 (mLc false (miKeys (mV 6)) (.name 7) (mTB (mOp fLt (mV 7) (mV 9))) (mV 7) [7])) mNil)) mNil)) (mCons (mV 9) (mCons (mV 8) (mCons (mCb fTuple (mCons (mLc false (miRng1 (mCons (mV 8) mNil)) (.name 5) (mT (mOp fIx (mV 4) (mV 5))) (mV 5) [5]) mNil)) mNil))))))
theorem st__law_form_18 (Fc : Facts K mg) (cdv : Value) (A : Around) (outer : List Env) (s : Shared) (H : Hp) (E : XK) (hr : Room (0) (A.deeper (envOfC "_law_form" (defScope s__law_form) s.heap.objs.size Fc.a__law_form cdv))) : PS (cxOf CX0 P w K mg base N__law_form "_law_form" (defScope s__law_form) Fc.a__law_form cdv A outer s H E).nox (stmtAt (defBody s__law_form) 9) (sM ⟨K, P, w⟩ (ms__law_form_18)) :=
    (z_ret (x_tup (a_cons (x_ct c_tuple (by rfl) Fc.b_tuple bt_tuple (a_cons (x_cb (c_sorted false) (by rfl) Fc.b_sorted bt_sorted (a_cons (x_lk 6 (x_lc false (T := (.name 7)) (own := [("one", 7)]) rfl sc__law_form.nd (i_keys (x_v 6)) (by first | exact blkOk_by (N := N__law_form) (sc := defScope s__law_form) (by decide +kernel) | exact blkOk_by (by kernel_rfl)) rfl (fun _ _ _ _ _ => (t_name 7 sc__law_form.nd rfl (by first | exact Or.inl rfl | exact Or.inr rfl))) (fun _ _ _ _ _ => (cs_one (y_k k_lt (x_v 7) (x_v 9)))) (fun _ _ _ _ _ => (x_v 7)))) a_nil)) a_nil)) (a_cons (x_v 9) (a_cons (x_v 8) (a_cons (x_ct c_tuple (by rfl) Fc.b_tuple bt_tuple (a_cons (x_lc false (T := (.name 5)) (own := [("rest", 5)]) rfl sc__law_form.nd (i_rng1 (by rfl) Fc.b_range (a_cons (x_v 8) a_nil)) (by first | exact blkOk_by (N := N__law_form) (sc := defScope s__law_form) (by decide +kernel) | exact blkOk_by (by kernel_rfl)) rfl (fun _ _ _ _ _ => (t_name 5 sc__law_form.nd rfl (by first | exact Or.inl rfl | exact Or.inr rfl))) (fun _ _ _ _ _ => (cs_one (y_t (x_ix (x_v 4) (x_v 5))))) (fun _ _ _ _ _ => (x_v 5))) a_nil)) a_nil))))))
noncomputable def m__law_form : List D → Sto → Option (D × Sto) := mDef 13 4 (mSeq (mAsg (mOp (fMul true) (mLst false (mCons (mC (.bl false)) mNil)) (mV 2)) (mgName 4))
    (mSeq (ms__law_form_6)
    (mSeq (mAsg mDNew (mgName 6))
    (mSeq (ms__law_form_8)
    (mSeq (mIfS (mTB (mOp (fIn true) (mC (.bl true)) (mV 4)))
    (mSeq (ms__law_form_0)
    (ms__law_form_2))
    mNext)
    (mSeq (ms__law_form_10)
    (mSeq (ms__law_form_12)
    (mSeq (ms__law_form_14)
    (mSeq (ms__law_form_16)
    (ms__law_form_18))))))))))
theorem ok__law_form (Fc : Facts K mg) : FnOk P w K mg base CX0 1 Fc.a__law_form Fc.d__law_form ["few", "first", "turn", "rests"] (spM ⟨K, P, w⟩ m__law_form) := x_def (k := 0) Fc.F__law_form sc__law_form rfl rfl fun cdv A outer s H E hr =>
    (z_cons (z_set 4 sc__law_form.nd rfl (by first | exact Or.inl rfl | exact Or.inr rfl) (x_mul true (x_lst false (a_cons x_bl a_nil)) (x_v 2)))
    (z_cons (st__law_form_6 Fc cdv A outer s H E hr)
    (z_cons (z_set 6 sc__law_form.nd rfl (by first | exact Or.inl rfl | exact Or.inr rfl) x_dnew)
    (z_cons (st__law_form_8 Fc cdv A outer s H E hr)
    (z_cons (z_if (y_k k_ni x_bl (x_v 4))
    (z_cons (st__law_form_0 Fc cdv A outer s H E hr)
    (z_one (st__law_form_2 Fc cdv A outer s H E hr)))
    z_nil)
    (z_cons (st__law_form_10 Fc cdv A outer s H E hr)
    (z_cons (st__law_form_12 Fc cdv A outer s H E hr)
    (z_cons (st__law_form_14 Fc cdv A outer s H E hr)
    (z_cons (st__law_form_16 Fc cdv A outer s H E hr)
    (z_one (st__law_form_18 Fc cdv A outer s H E hr)))))))))))
abbrev N__law_has : List Str := ["amounts", "number", "few", "first", "turn", "rests"]
theorem sc__law_has : FnScope N__law_has ["amounts", "number"] (defScope s__law_has) := ⟨rfl, rfl, rfl, by decide +kernel, rfl, by decide +kernel, by decide +kernel⟩
noncomputable def ms__law_has_0 : MS := (mAsg (mV 0) (mgTup 4 (mgCons (mgT (.name 2)) (mgCons (mgT (.name 3)) (mgCons (mgT (.name 4)) (mgCons (mgT (.name 5)) mgNil))))))
theorem st__law_has_0 (Fc : Facts K mg) (cdv : Value) (A : Around) (outer : List Env) (s : Shared) (H : Hp) (E : XK) (hr : Room (0) (A.deeper (envOfC "_law_has" (defScope s__law_has) s.heap.objs.size Fc.a__law_has cdv))) : PS (cxOf CX0 P w K mg base N__law_has "_law_has" (defScope s__law_has) Fc.a__law_has cdv A outer s H E).nox (stmtAt (defBody s__law_has) 0) (sM ⟨K, P, w⟩ (ms__law_has_0)) :=
    (z_asg (x_v 0) (g_tup (n := 4) rfl (g_cons (g_T (t_name 2 sc__law_has.nd rfl (by first | exact Or.inl rfl | exact Or.inr rfl))) (g_cons (g_T (t_name 3 sc__law_has.nd rfl (by first | exact Or.inl rfl | exact Or.inr rfl))) (g_cons (g_T (t_name 4 sc__law_has.nd rfl (by first | exact Or.inl rfl | exact Or.inr rfl))) (g_cons (g_T (t_name 5 sc__law_has.nd rfl (by first | exact Or.inl rfl | exact Or.inr rfl))) g_nil))))))
noncomputable def ms__law_has_2 : MS := (mRet (mIf (mTB (mOp fLt (mV 1) (mV 3))) (mOp (fIn false) (mV 1) (mV 2)) (mOp (fIn false) (mOp fMod (mCb fInt (mCons (mV 1) mNil)) (mV 4)) (mV 5))))
theorem st__law_has_2 (Fc : Facts K mg) (cdv : Value) (A : Around) (outer : List Env) (s : Shared) (H : Hp) (E : XK) (hr : Room (0) (A.deeper (envOfC "_law_has" (defScope s__law_has) s.heap.objs.size Fc.a__law_has cdv))) : PS (cxOf CX0 P w K mg base N__law_has "_law_has" (defScope s__law_has) Fc.a__law_has cdv A outer s H E).nox (stmtAt (defBody s__law_has) 1) (sM ⟨K, P, w⟩ (ms__law_has_2)) :=
    (z_ret (x_if (y_k k_lt (x_v 1) (x_v 3)) (x_k k_in (x_v 1) (x_v 2)) (x_k k_in (x_mod (x_ct c_int (by rfl) Fc.b_int bt_int (a_cons (x_v 1) a_nil)) (x_v 4)) (x_v 5))))
noncomputable def m__law_has : List D → Sto → Option (D × Sto) := mDef 6 2 (mSeq (ms__law_has_0)
    (ms__law_has_2))
theorem ok__law_has (Fc : Facts K mg) : FnOk P w K mg base CX0 1 Fc.a__law_has Fc.d__law_has ["amounts", "number"] (spM ⟨K, P, w⟩ m__law_has) := x_def (k := 0) Fc.F__law_has sc__law_has rfl rfl fun cdv A outer s H E hr =>
    (z_cons (st__law_has_0 Fc cdv A outer s H E hr)
    (z_one (st__law_has_2 Fc cdv A outer s H E hr)))
abbrev N__law_round : List Str := ["vat", "firsts", "turns", "most", "few", "rests", "first", "turn", "lap"]
theorem sc__law_round : FnScope N__law_round ["vat", "firsts", "turns", "most"] (defScope s__law_round) := ⟨rfl, rfl, rfl, by decide +kernel, rfl, by decide +kernel, by decide +kernel⟩
noncomputable def ms__law_round_0 : MS := (mAsg (mTup (mCons (mCb m__law_draw (mCons (mV 0) (mCons (mC (.int 0)) (mCons (mOp (fAdd false) (mV 1) (mC (.int 1))) mNil)))) (mCons (mOp (fAdd false) (mC (.int 1)) (mCb m__law_draw (mCons (mV 0) (mCons (mC (.int 1)) (mCons (mV 2) mNil))))) mNil))) (mgTup 2 (mgCons (mgT (.name 6)) (mgCons (mgT (.name 7)) mgNil))))
theorem st__law_round_0 (Fc : Facts K mg) (cdv : Value) (A : Around) (outer : List Env) (s : Shared) (H : Hp) (E : XK) (hr : Room (1) (A.deeper (envOfC "_law_round" (defScope s__law_round) s.heap.objs.size Fc.a__law_round cdv))) : PS (cxOf CX0 P w K mg base N__law_round "_law_round" (defScope s__law_round) Fc.a__law_round cdv A outer s H E).nox (stmtAt (defBody s__law_round) 0) (sM ⟨K, P, w⟩ (ms__law_round_0)) :=
    (z_asg (x_tup (a_cons (x_call (ok__law_draw Fc) (hr.mono (by decide)) (by rfl) Fc.g__law_draw Fc.F__law_draw.kp (b__law_draw Fc) (a_cons (x_v 0) (a_cons x_int (a_cons (x_add false (x_v 1) x_int) a_nil)))) (a_cons (x_add false x_int (x_call (ok__law_draw Fc) (hr.mono (by decide)) (by rfl) Fc.g__law_draw Fc.F__law_draw.kp (b__law_draw Fc) (a_cons (x_v 0) (a_cons x_int (a_cons (x_v 2) a_nil))))) a_nil))) (g_tup (n := 2) rfl (g_cons (g_T (t_name 6 sc__law_round.nd rfl (by first | exact Or.inl rfl | exact Or.inr rfl))) (g_cons (g_T (t_name 7 sc__law_round.nd rfl (by first | exact Or.inl rfl | exact Or.inr rfl))) g_nil))))
noncomputable def ms__law_round_2 : MS := (mAsg (mIf (mTB (mOp fGt (mV 6) (mC (.int 0)))) (mLc false (miRng1 (mCons (mCb m__law_draw (mCons (mV 0) (mCons (mC (.int 3)) (mCons (mOp (fAdd false) (mV 3) (mC (.int 1))) mNil)))) mNil)) (.name 8) mYes (mCb m__law_draw (mCons (mV 0) (mCons (mC (.int 2)) (mCons (mV 6) mNil)))) [8]) (mLst false mNil)) (mgName 4))
theorem st__law_round_2 (Fc : Facts K mg) (cdv : Value) (A : Around) (outer : List Env) (s : Shared) (H : Hp) (E : XK) (hr : Room (1) (A.deeper (envOfC "_law_round" (defScope s__law_round) s.heap.objs.size Fc.a__law_round cdv))) : PS (cxOf CX0 P w K mg base N__law_round "_law_round" (defScope s__law_round) Fc.a__law_round cdv A outer s H E).nox (stmtAt (defBody s__law_round) 1) (sM ⟨K, P, w⟩ (ms__law_round_2)) :=
    (z_set 4 sc__law_round.nd rfl (by first | exact Or.inl rfl | exact Or.inr rfl) (x_if (y_k k_gt (x_v 6) x_int) (x_lc false (T := (.name 8)) (own := [("lap", 8)]) rfl sc__law_round.nd (i_rng1 (by rfl) Fc.b_range (a_cons (x_call (ok__law_draw Fc) (hr.mono (by decide)) (by rfl) Fc.g__law_draw Fc.F__law_draw.kp (b__law_draw Fc) (a_cons (x_v 0) (a_cons x_int (a_cons (x_add false (x_v 3) x_int) a_nil)))) a_nil)) (by first | exact blkOk_by (N := N__law_round) (sc := defScope s__law_round) (by decide +kernel) | exact blkOk_by (by kernel_rfl)) rfl (fun _ _ _ _ _ => (t_name 8 sc__law_round.nd rfl (by first | exact Or.inl rfl | exact Or.inr rfl))) (fun _ _ _ _ _ => cs_nil) (fun _ _ _ _ _ => (x_call (ok__law_draw Fc) (hr.mono (by decide)) (by rfl) Fc.g__law_draw Fc.F__law_draw.kp (b__law_draw Fc) (a_cons (x_v 0) (a_cons x_int (a_cons (x_v 6) a_nil)))))) (x_lst false a_nil)))
noncomputable def ms__law_round_4 : MS := (mAsg (mLc false (miRng1 (mCons (mOp fIx (mTup (mCons (mC (.int 0)) (mCons (mC (.int 1)) (mCons (mC (.int 2)) (mCons (mV 7) (mCons (mC (.int 1)) mNil)))))) (mCb m__law_draw (mCons (mV 0) (mCons (mC (.int 5)) (mCons (mC (.int 5)) mNil))))) mNil)) (.name 8) mYes (mCb m__law_draw (mCons (mV 0) (mCons (mC (.int 4)) (mCons (mV 7) mNil)))) [8]) (mgName 5))
theorem st__law_round_4 (Fc : Facts K mg) (cdv : Value) (A : Around) (outer : List Env) (s : Shared) (H : Hp) (E : XK) (hr : Room (1) (A.deeper (envOfC "_law_round" (defScope s__law_round) s.heap.objs.size Fc.a__law_round cdv))) : PS (cxOf CX0 P w K mg base N__law_round "_law_round" (defScope s__law_round) Fc.a__law_round cdv A outer s H E).nox (stmtAt (defBody s__law_round) 2) (sM ⟨K, P, w⟩ (ms__law_round_4)) :=
    (x_setLc false (i := 5) (T := (.name 8)) (own := [("lap", 8)]) rfl sc__law_round.nd rfl rfl (sw_true rfl rfl rfl (by decide +kernel)) (i_rng1 (by rfl) Fc.b_range (a_cons (x_ix (x_tup (a_cons x_int (a_cons x_int (a_cons x_int (a_cons (x_v 7) (a_cons x_int a_nil)))))) (x_call (ok__law_draw Fc) (hr.mono (by decide)) (by rfl) Fc.g__law_draw Fc.F__law_draw.kp (b__law_draw Fc) (a_cons (x_v 0) (a_cons x_int (a_cons x_int a_nil))))) a_nil)) (by first | exact blkOk_by (N := N__law_round) (sc := defScope s__law_round) (by decide +kernel) | exact blkOk_by (by kernel_rfl)) rfl (fun _ _ _ _ _ => (t_name 8 sc__law_round.nd rfl (by first | exact Or.inl rfl | exact Or.inr rfl))) (fun _ _ _ _ _ => cs_nil) (fun _ _ _ _ _ => (x_call (ok__law_draw Fc) (hr.mono (by decide)) (by rfl) Fc.g__law_draw Fc.F__law_draw.kp (b__law_draw Fc) (a_cons (x_v 0) (a_cons x_int (a_cons (x_v 7) a_nil))))))
noncomputable def ms__law_round_6 : MS := (mRet (mCb m__law_form (mCons (mV 4) (mCons (mV 6) (mCons (mV 7) (mCons (mV 5) mNil))))))
theorem st__law_round_6 (Fc : Facts K mg) (cdv : Value) (A : Around) (outer : List Env) (s : Shared) (H : Hp) (E : XK) (hr : Room (1) (A.deeper (envOfC "_law_round" (defScope s__law_round) s.heap.objs.size Fc.a__law_round cdv))) : PS (cxOf CX0 P w K mg base N__law_round "_law_round" (defScope s__law_round) Fc.a__law_round cdv A outer s H E).nox (stmtAt (defBody s__law_round) 3) (sM ⟨K, P, w⟩ (ms__law_round_6)) :=
    (z_ret (x_call (ok__law_form Fc) (hr.mono (by decide)) (by rfl) Fc.g__law_form Fc.F__law_form.kp (b__law_form Fc) (a_cons (x_v 4) (a_cons (x_v 6) (a_cons (x_v 7) (a_cons (x_v 5) a_nil))))))
noncomputable def m__law_round : List D → Sto → Option (D × Sto) := mDef 9 4 (mSeq (ms__law_round_0)
    (mSeq (ms__law_round_2)
    (mSeq (ms__law_round_4)
    (ms__law_round_6))))
theorem ok__law_round (Fc : Facts K mg) : FnOk P w K mg base CX0 2 Fc.a__law_round Fc.d__law_round ["vat", "firsts", "turns", "most"] (spM ⟨K, P, w⟩ m__law_round) := x_def (k := 1) Fc.F__law_round sc__law_round rfl rfl fun cdv A outer s H E hr =>
    (z_cons (st__law_round_0 Fc cdv A outer s H E hr)
    (z_cons (st__law_round_2 Fc cdv A outer s H E hr)
    (z_cons (st__law_round_4 Fc cdv A outer s H E hr)
    (z_one (st__law_round_6 Fc cdv A outer s H E hr)))))
abbrev N__law_lowest : List Str := ["top", "bottom", "lap", "one", "other"]
theorem sc__law_lowest : FnScope N__law_lowest ["top", "bottom"] (defScope s__law_lowest) := ⟨rfl, rfl, rfl, by decide +kernel, rfl, by decide +kernel, by decide +kernel⟩
noncomputable def ms__law_lowest_0 : MS := (mPar 3 4 (mCons (mV 4) (mCons (mOp fMod (mCb fInt (mCons (mV 3) mNil)) (mV 4)) mNil)))
theorem st__law_lowest_0 (Fc : Facts K mg) (cdv : Value) (A : Around) (outer : List Env) (s : Shared) (H : Hp) (E : XK) (hr : Room (0) (A.deeper (envOfC "_law_lowest" (defScope s__law_lowest) s.heap.objs.size Fc.a__law_lowest cdv))) : PS (cxOf CX0 P w K mg base N__law_lowest "_law_lowest" (defScope s__law_lowest) Fc.a__law_lowest cdv A outer s H E).nox (stmtAt (bodyOf (stmtAt (defBody s__law_lowest) 1)) 1) (sM ⟨K, P, w⟩ (ms__law_lowest_0)) :=
    (z_par 3 4 rfl sc__law_lowest.nd rfl rfl (by decide) rfl rfl (a_cons (x_v 4) (a_cons (x_mod (x_ct c_int (by rfl) Fc.b_int bt_int (a_cons (x_v 3) a_nil)) (x_v 4)) a_nil)))
noncomputable def ms__law_lowest_2 : MS := (mFor (miRng1 (mCons (mOp (fAdd false) (mOp (fAdd false) (mV 0) (mV 1)) (mC (.int 1))) mNil)) (.name 2)
    (mSeq (mIfS (mTB (mOp fEq (mV 4) (mC (.int 0))))
    mBreak
    mNext)
    (ms__law_lowest_0)))
theorem st__law_lowest_2 (Fc : Facts K mg) (cdv : Value) (A : Around) (outer : List Env) (s : Shared) (H : Hp) (E : XK) (hr : Room (0) (A.deeper (envOfC "_law_lowest" (defScope s__law_lowest) s.heap.objs.size Fc.a__law_lowest cdv))) : PS (cxOf CX0 P w K mg base N__law_lowest "_law_lowest" (defScope s__law_lowest) Fc.a__law_lowest cdv A outer s H E).nox (stmtAt (defBody s__law_lowest) 1) (sM ⟨K, P, w⟩ (ms__law_lowest_2)) :=
    (z_for PassesOwn.never rfl (i_rng1 (by rfl) Fc.b_range (a_cons (x_add false (x_add false (x_v 0) (x_v 1)) x_int) a_nil)) (t_name 2 sc__law_lowest.nd rfl (by first | exact Or.inl rfl | exact Or.inr rfl))
    (z_cons (z_if (y_k (k_eq hr) (x_v 4) x_int)
    (z_one z_break)
    z_nil)
    (z_one (st__law_lowest_0 Fc cdv A outer s H E hr))))
noncomputable def m__law_lowest : List D → Sto → Option (D × Sto) := mDef 5 2 (mSeq (mPar 3 4 (mCons (mV 0) (mCons (mV 1) mNil)))
    (mSeq (ms__law_lowest_2)
    (mRet (mTup (mCons (mOp fDiv (mV 0) (mV 3)) (mCons (mOp fDiv (mV 1) (mV 3)) mNil))))))
theorem ok__law_lowest (Fc : Facts K mg) : FnOk P w K mg base CX0 1 Fc.a__law_lowest Fc.d__law_lowest ["top", "bottom"] (spM ⟨K, P, w⟩ m__law_lowest) := x_def (k := 0) Fc.F__law_lowest sc__law_lowest rfl rfl fun cdv A outer s H E hr =>
    (z_cons (z_par 3 4 rfl sc__law_lowest.nd rfl rfl (by decide) rfl rfl (a_cons (x_v 0) (a_cons (x_v 1) a_nil)))
    (z_cons (st__law_lowest_2 Fc cdv A outer s H E hr)
    (z_one (z_ret (x_tup (a_cons (x_fdiv (x_v 0) (x_v 3)) (a_cons (x_fdiv (x_v 1) (x_v 3)) a_nil)))))))
abbrev N__law_asked : List Str := ["vat", "amounts", "far", "most", "few", "first", "turn", "rests", "due", "begin", "one"]
theorem sc__law_asked : FnScope N__law_asked ["vat", "amounts", "far"] (defScope s__law_asked) := ⟨rfl, rfl, rfl, by decide +kernel, rfl, by decide +kernel, by decide +kernel⟩
noncomputable def ms__law_asked_0 : MS := (mIfS (mTB (mOp (fIn false) (mOp fMod (mCb fInt (mCons (mV 9) mNil)) (mV 6)) (mV 7)))
    (mDrop (mMt fAppend (mV 8) (mCons (mV 9) mNil)))
    mNext)
theorem st__law_asked_0 (Fc : Facts K mg) (cdv : Value) (A : Around) (outer : List Env) (s : Shared) (H : Hp) (E : XK) (hr : Room (2) (A.deeper (envOfC "_law_asked" (defScope s__law_asked) s.heap.objs.size Fc.a__law_asked cdv))) : PS (cxOf CX0 P w K mg base N__law_asked "_law_asked" (defScope s__law_asked) Fc.a__law_asked cdv A outer s H E).nox (stmtAt (bodyOf (stmtAt (bodyOf (stmtAt (defBody s__law_asked) 1)) 1)) 0) (sM ⟨K, P, w⟩ (ms__law_asked_0)) :=
    (z_if (y_k k_in (x_mod (x_ct c_int (by rfl) Fc.b_int bt_int (a_cons (x_v 9) a_nil)) (x_v 6)) (x_v 7))
    (z_one (z_expr (x_append (x_v 8) (a_cons (x_v 9) a_nil))))
    z_nil)
noncomputable def ms__law_asked_2 : MS := (mAsg (mLc true (miSeq (mV 4)) (.name 10) (mTB (mOp fLe (mV 10) (mV 3))) (mV 10) [10]) (mgName 8))
theorem st__law_asked_2 (Fc : Facts K mg) (cdv : Value) (A : Around) (outer : List Env) (s : Shared) (H : Hp) (E : XK) (hr : Room (2) (A.deeper (envOfC "_law_asked" (defScope s__law_asked) s.heap.objs.size Fc.a__law_asked cdv))) : PS (cxOf CX0 P w K mg base N__law_asked "_law_asked" (defScope s__law_asked) Fc.a__law_asked cdv A outer s H E).nox (stmtAt (bodyOf (stmtAt (defBody s__law_asked) 1)) 0) (sM ⟨K, P, w⟩ (ms__law_asked_2)) :=
    (x_setLc true (i := 8) (T := (.name 10)) (own := [("one", 10)]) rfl sc__law_asked.nd rfl rfl (sw_true rfl rfl rfl (by decide +kernel)) (i_seq (x_v 4)) (by first | exact blkOk_by (N := N__law_asked) (sc := defScope s__law_asked) (by decide +kernel) | exact blkOk_by (by kernel_rfl)) rfl (fun _ _ _ _ _ => (t_name 10 sc__law_asked.nd rfl (by first | exact Or.inl rfl | exact Or.inr rfl))) (fun _ _ _ _ _ => (cs_one (y_k k_le (x_v 10) (x_v 3)))) (fun _ _ _ _ _ => (x_v 10)))
noncomputable def ms__law_asked_4 : MS := (mFor (miRng2 (mCons (mV 5) (mCons (mOp (fAdd false) (mV 3) (mC (.int 1))) mNil))) (.name 9)
    (ms__law_asked_0))
theorem st__law_asked_4 (Fc : Facts K mg) (cdv : Value) (A : Around) (outer : List Env) (s : Shared) (H : Hp) (E : XK) (hr : Room (2) (A.deeper (envOfC "_law_asked" (defScope s__law_asked) s.heap.objs.size Fc.a__law_asked cdv))) : PS (cxOf CX0 P w K mg base N__law_asked "_law_asked" (defScope s__law_asked) Fc.a__law_asked cdv A outer s H E).nox (stmtAt (bodyOf (stmtAt (defBody s__law_asked) 1)) 1) (sM ⟨K, P, w⟩ (ms__law_asked_4)) :=
    (z_for PassesOwn.never rfl (i_rng2 (by rfl) Fc.b_range (a_cons (x_v 5) (a_cons (x_add false (x_v 3) x_int) a_nil))) (t_name 9 sc__law_asked.nd rfl (by first | exact Or.inl rfl | exact Or.inr rfl))
    (z_one (st__law_asked_0 Fc cdv A outer s H E hr)))
noncomputable def ms__law_asked_6 : MS := (mIfS (mNot (mT (mCb m__law_same (mCons (mCb m_listed (mCons (mV 1) (mCons (mV 3) mNil))) (mCons (mCb fTuple (mCons (mV 8) mNil)) mNil)))))
    (mRet (mC (.bl false)))
    mNext)
theorem st__law_asked_6 (Fc : Facts K mg) (cdv : Value) (A : Around) (outer : List Env) (s : Shared) (H : Hp) (E : XK) (hr : Room (2) (A.deeper (envOfC "_law_asked" (defScope s__law_asked) s.heap.objs.size Fc.a__law_asked cdv))) : PS (cxOf CX0 P w K mg base N__law_asked "_law_asked" (defScope s__law_asked) Fc.a__law_asked cdv A outer s H E).nox (stmtAt (bodyOf (stmtAt (defBody s__law_asked) 1)) 2) (sM ⟨K, P, w⟩ (ms__law_asked_6)) :=
    (z_if (y_not (y_t (x_call (ok__law_same Fc) (hr.mono (by decide)) (by rfl) Fc.g__law_same Fc.F__law_same.kp (b__law_same Fc) (a_cons (x_call (ok_listed Fc) (hr.mono (by decide)) (by rfl) Fc.g_listed Fc.F_listed.kp (b_listed Fc) (a_cons (x_v 1) (a_cons (x_v 3) a_nil))) (a_cons (x_ct c_tuple (by rfl) Fc.b_tuple bt_tuple (a_cons (x_v 8) a_nil)) a_nil)))))
    (z_one (z_ret x_bl))
    z_nil)
noncomputable def ms__law_asked_8 : MS := (mAsg (mV 1) (mgTup 4 (mgCons (mgT (.name 4)) (mgCons (mgT (.name 5)) (mgCons (mgT (.name 6)) (mgCons (mgT (.name 7)) mgNil))))))
theorem st__law_asked_8 (Fc : Facts K mg) (cdv : Value) (A : Around) (outer : List Env) (s : Shared) (H : Hp) (E : XK) (hr : Room (2) (A.deeper (envOfC "_law_asked" (defScope s__law_asked) s.heap.objs.size Fc.a__law_asked cdv))) : PS (cxOf CX0 P w K mg base N__law_asked "_law_asked" (defScope s__law_asked) Fc.a__law_asked cdv A outer s H E).nox (stmtAt (defBody s__law_asked) 0) (sM ⟨K, P, w⟩ (ms__law_asked_8)) :=
    (z_asg (x_v 1) (g_tup (n := 4) rfl (g_cons (g_T (t_name 4 sc__law_asked.nd rfl (by first | exact Or.inl rfl | exact Or.inr rfl))) (g_cons (g_T (t_name 5 sc__law_asked.nd rfl (by first | exact Or.inl rfl | exact Or.inr rfl))) (g_cons (g_T (t_name 6 sc__law_asked.nd rfl (by first | exact Or.inl rfl | exact Or.inr rfl))) (g_cons (g_T (t_name 7 sc__law_asked.nd rfl (by first | exact Or.inl rfl | exact Or.inr rfl))) g_nil))))))
noncomputable def ms__law_asked_10 : MS := (mFor (miSeq (mTup (mCons (mC (.int 0)) (mCons (mCb fMaxL (mCons (mC (.int 0)) (mCons (mOp fSub (mV 5) (mC (.int 1))) mNil))) (mCons (mV 5) (mCons (mOp (fAdd false) (mV 5) (mV 6)) (mCons (mOp (fAdd false) (mOp (fAdd false) (mV 5) (mOp (fMul false) (mC (.int 2)) (mV 6))) (mCb m__law_draw (mCons (mV 0) (mCons (mC (.int 6)) (mCons (mC (.int 9)) mNil))))) (mCons (mV 2) mNil)))))))) (.name 3)
    (mSeq (ms__law_asked_2)
    (mSeq (ms__law_asked_4)
    (ms__law_asked_6))))
theorem st__law_asked_10 (Fc : Facts K mg) (cdv : Value) (A : Around) (outer : List Env) (s : Shared) (H : Hp) (E : XK) (hr : Room (2) (A.deeper (envOfC "_law_asked" (defScope s__law_asked) s.heap.objs.size Fc.a__law_asked cdv))) : PS (cxOf CX0 P w K mg base N__law_asked "_law_asked" (defScope s__law_asked) Fc.a__law_asked cdv A outer s H E).nox (stmtAt (defBody s__law_asked) 1) (sM ⟨K, P, w⟩ (ms__law_asked_10)) :=
    (z_for PassesOwn.never rfl (i_seq (x_tup (a_cons x_int (a_cons (x_cb c_max (by rfl) Fc.b_max bt_max (a_cons x_int (a_cons (x_sub (x_v 5) x_int) a_nil))) (a_cons (x_v 5) (a_cons (x_add false (x_v 5) (x_v 6)) (a_cons (x_add false (x_add false (x_v 5) (x_mul false x_int (x_v 6))) (x_call (ok__law_draw Fc) (hr.mono (by decide)) (by rfl) Fc.g__law_draw Fc.F__law_draw.kp (b__law_draw Fc) (a_cons (x_v 0) (a_cons x_int (a_cons x_int a_nil))))) (a_cons (x_v 2) a_nil)))))))) (t_name 3 sc__law_asked.nd rfl (by first | exact Or.inl rfl | exact Or.inr rfl))
    (z_cons (st__law_asked_2 Fc cdv A outer s H E hr)
    (z_cons (st__law_asked_4 Fc cdv A outer s H E hr)
    (z_one (st__law_asked_6 Fc cdv A outer s H E hr)))))
noncomputable def ms__law_asked_12 : MS := (mRet (mCb m__law_same (mCons (mTup (mCons (mCb m_share (mCons (mV 1) mNil)) (mCons (mCbK m_share 0 1 [0] mNil (mCons (mV 1) mNil)) mNil))) (mCons (mTup (mCons (mCb m__law_lowest (mCons (mCb fLen (mCons (mV 7) mNil)) (mCons (mV 6) mNil))) (mCons (mCb m__law_lowest (mCons (mCb fLen (mCons (mV 7) mNil)) (mCons (mV 6) mNil))) mNil))) mNil))))
theorem st__law_asked_12 (Fc : Facts K mg) (cdv : Value) (A : Around) (outer : List Env) (s : Shared) (H : Hp) (E : XK) (hr : Room (2) (A.deeper (envOfC "_law_asked" (defScope s__law_asked) s.heap.objs.size Fc.a__law_asked cdv))) : PS (cxOf CX0 P w K mg base N__law_asked "_law_asked" (defScope s__law_asked) Fc.a__law_asked cdv A outer s H E).nox (stmtAt (defBody s__law_asked) 2) (sM ⟨K, P, w⟩ (ms__law_asked_12)) :=
    (z_ret (x_call (ok__law_same Fc) (hr.mono (by decide)) (by rfl) Fc.g__law_same Fc.F__law_same.kp (b__law_same Fc) (a_cons (x_tup (a_cons (x_call (ok_share Fc) (hr.mono (by decide)) (by rfl) Fc.g_share Fc.F_share.kp (b_share Fc) (a_cons (x_v 1) a_nil)) (a_cons (x_callK0 (ks := ["amounts"]) (pm := [0]) (g := m_share) (ok_share Fc) (hr.mono (by decide)) (by rfl) Fc.g_share Fc.F_share.kp (kb_share_0 Fc) (kw_cons (x_v 1) kw_nil)) a_nil))) (a_cons (x_tup (a_cons (x_call (ok__law_lowest Fc) (hr.mono (by decide)) (by rfl) Fc.g__law_lowest Fc.F__law_lowest.kp (b__law_lowest Fc) (a_cons (x_cb c_len (by rfl) Fc.b_len bt_len (a_cons (x_v 7) a_nil)) (a_cons (x_v 6) a_nil))) (a_cons (x_call (ok__law_lowest Fc) (hr.mono (by decide)) (by rfl) Fc.g__law_lowest Fc.F__law_lowest.kp (b__law_lowest Fc) (a_cons (x_cb c_len (by rfl) Fc.b_len bt_len (a_cons (x_v 7) a_nil)) (a_cons (x_v 6) a_nil))) a_nil))) a_nil))))
noncomputable def m__law_asked : List D → Sto → Option (D × Sto) := mDef 11 3 (mSeq (ms__law_asked_8)
    (mSeq (ms__law_asked_10)
    (ms__law_asked_12)))
theorem ok__law_asked (Fc : Facts K mg) : FnOk P w K mg base CX0 3 Fc.a__law_asked Fc.d__law_asked ["vat", "amounts", "far"] (spM ⟨K, P, w⟩ m__law_asked) := x_def (k := 2) Fc.F__law_asked sc__law_asked rfl rfl fun cdv A outer s H E hr =>
    (z_cons (st__law_asked_8 Fc cdv A outer s H E hr)
    (z_cons (st__law_asked_10 Fc cdv A outer s H E hr)
    (z_one (st__law_asked_12 Fc cdv A outer s H E hr))))
abbrev N__law_hand : List Str := ["told", "due"]
theorem sc__law_hand : FnScope N__law_hand [] (defScope s__law_hand) := ⟨rfl, rfl, rfl, by decide +kernel, rfl, by decide +kernel, by decide +kernel⟩
noncomputable def ms__law_hand_0 : MS := (mAsg (mTup (mCons (mCb m_listed (mCons (mTup (mCons (mTup mNil) (mCons (mC (.int 0)) (mCons (mC (.int 2)) (mCons (mTup (mCons (mC (.int 1)) mNil)) mNil))))) (mCons (mC (.int 8)) mNil))) (mCons (mCb m_share (mCons (mTup (mCons (mTup (mCons (mC (.int 2)) mNil)) (mCons (mC (.int 4)) (mCons (mC (.int 6)) (mCons (mTup (mCons (mC (.int 1)) (mCons (mC (.int 3)) mNil))) mNil))))) mNil)) (mCons (mCbK m_listed 0 2 [1, 0] mNil (mCons (mC (.int 9)) (mCons (mTup (mCons (mTup (mCons (mC (.int 2)) mNil)) (mCons (mC (.int 4)) (mCons (mC (.int 6)) (mCons (mTup (mCons (mC (.int 1)) (mCons (mC (.int 3)) mNil))) mNil))))) mNil))) (mCons (mCb m_share (mCons (mTup (mCons (mTup mNil) (mCons (mC (.int 0)) (mCons (mC (.int 1)) (mCons (mTup mNil) mNil))))) mNil)) mNil))))) (mgName 0))
theorem st__law_hand_0 (Fc : Facts K mg) (cdv : Value) (A : Around) (outer : List Env) (s : Shared) (H : Hp) (E : XK) (hr : Room (2) (A.deeper (envOfC "_law_hand" (defScope s__law_hand) s.heap.objs.size Fc.a__law_hand cdv))) : PS (cxOf CX0 P w K mg base N__law_hand "_law_hand" (defScope s__law_hand) Fc.a__law_hand cdv A outer s H E).nox (stmtAt (defBody s__law_hand) 0) (sM ⟨K, P, w⟩ (ms__law_hand_0)) :=
    (z_set 0 sc__law_hand.nd rfl (by first | exact Or.inl rfl | exact Or.inr rfl) (x_tup (a_cons (x_call (ok_listed Fc) (hr.mono (by decide)) (by rfl) Fc.g_listed Fc.F_listed.kp (b_listed Fc) (a_cons (x_tup (a_cons (x_tup a_nil) (a_cons x_int (a_cons x_int (a_cons (x_tup (a_cons x_int a_nil)) a_nil))))) (a_cons x_int a_nil))) (a_cons (x_call (ok_share Fc) (hr.mono (by decide)) (by rfl) Fc.g_share Fc.F_share.kp (b_share Fc) (a_cons (x_tup (a_cons (x_tup (a_cons x_int a_nil)) (a_cons x_int (a_cons x_int (a_cons (x_tup (a_cons x_int (a_cons x_int a_nil))) a_nil))))) a_nil)) (a_cons (x_callK0 (ks := ["most", "amounts"]) (pm := [1, 0]) (g := m_listed) (ok_listed Fc) (hr.mono (by decide)) (by rfl) Fc.g_listed Fc.F_listed.kp (kb_listed_1 Fc) (kw_cons x_int (kw_cons (x_tup (a_cons (x_tup (a_cons x_int a_nil)) (a_cons x_int (a_cons x_int (a_cons (x_tup (a_cons x_int (a_cons x_int a_nil))) a_nil))))) kw_nil))) (a_cons (x_call (ok_share Fc) (hr.mono (by decide)) (by rfl) Fc.g_share Fc.F_share.kp (b_share Fc) (a_cons (x_tup (a_cons (x_tup a_nil) (a_cons x_int (a_cons x_int (a_cons (x_tup a_nil) a_nil))))) a_nil)) a_nil))))))
noncomputable def ms__law_hand_2 : MS := (mAsg (mOp (fAdd false) (mV 0) (mTup (mCons (mCb m_share (mCons (mTup (mCons (mTup mNil) (mCons (mC (.int 0)) (mCons (mC (.int 1)) (mCons (mTup (mCons (mC (.int 0)) mNil)) mNil))))) mNil)) (mCons (mCb m_listed (mCons (mTup (mCons (mTup mNil) (mCons (mC (.int 0)) (mCons (mC (.int 1)) (mCons (mTup mNil) mNil))))) (mCons (mC (.int 50)) mNil))) (mCons (mCb m_listed (mCons (mTup (mCons (mTup (mCons (mC (.int 0)) (mCons (mC (.int 7)) mNil))) (mCons (mC (.int 8)) (mCons (mC (.int 1)) (mCons (mTup mNil) mNil))))) (mCons (mC (.int 7)) mNil))) mNil))))) (mgName 0))
theorem st__law_hand_2 (Fc : Facts K mg) (cdv : Value) (A : Around) (outer : List Env) (s : Shared) (H : Hp) (E : XK) (hr : Room (2) (A.deeper (envOfC "_law_hand" (defScope s__law_hand) s.heap.objs.size Fc.a__law_hand cdv))) : PS (cxOf CX0 P w K mg base N__law_hand "_law_hand" (defScope s__law_hand) Fc.a__law_hand cdv A outer s H E).nox (stmtAt (defBody s__law_hand) 1) (sM ⟨K, P, w⟩ (ms__law_hand_2)) :=
    (z_set 0 sc__law_hand.nd rfl (by first | exact Or.inl rfl | exact Or.inr rfl) (x_add false (x_v 0) (x_tup (a_cons (x_call (ok_share Fc) (hr.mono (by decide)) (by rfl) Fc.g_share Fc.F_share.kp (b_share Fc) (a_cons (x_tup (a_cons (x_tup a_nil) (a_cons x_int (a_cons x_int (a_cons (x_tup (a_cons x_int a_nil)) a_nil))))) a_nil)) (a_cons (x_call (ok_listed Fc) (hr.mono (by decide)) (by rfl) Fc.g_listed Fc.F_listed.kp (b_listed Fc) (a_cons (x_tup (a_cons (x_tup a_nil) (a_cons x_int (a_cons x_int (a_cons (x_tup a_nil) a_nil))))) (a_cons x_int a_nil))) (a_cons (x_call (ok_listed Fc) (hr.mono (by decide)) (by rfl) Fc.g_listed Fc.F_listed.kp (b_listed Fc) (a_cons (x_tup (a_cons (x_tup (a_cons x_int (a_cons x_int a_nil))) (a_cons x_int (a_cons x_int (a_cons (x_tup a_nil) a_nil))))) (a_cons x_int a_nil))) a_nil))))))
noncomputable def ms__law_hand_4 : MS := (mAsg (mTup (mCons (mTup (mCons (mC (.int 1)) (mCons (mC (.int 3)) (mCons (mC (.int 5)) (mCons (mC (.int 7)) mNil))))) (mCons (mTup (mCons (mC (.int 1)) (mCons (mC (.int 3)) mNil))) (mCons (mTup (mCons (mC (.int 2)) (mCons (mC (.int 7)) (mCons (mC (.int 9)) mNil)))) (mCons (mTup (mCons (mC (.int 0)) (mCons (mC (.int 1)) mNil))) (mCons (mTup (mCons (mC (.int 1)) (mCons (mC (.int 1)) mNil))) (mCons (mTup mNil) (mCons (mTup (mCons (mC (.int 0)) (mCons (mC (.int 7)) mNil))) mNil)))))))) (mgName 1))
theorem st__law_hand_4 (Fc : Facts K mg) (cdv : Value) (A : Around) (outer : List Env) (s : Shared) (H : Hp) (E : XK) (hr : Room (2) (A.deeper (envOfC "_law_hand" (defScope s__law_hand) s.heap.objs.size Fc.a__law_hand cdv))) : PS (cxOf CX0 P w K mg base N__law_hand "_law_hand" (defScope s__law_hand) Fc.a__law_hand cdv A outer s H E).nox (stmtAt (defBody s__law_hand) 2) (sM ⟨K, P, w⟩ (ms__law_hand_4)) :=
    (z_set 1 sc__law_hand.nd rfl (by first | exact Or.inl rfl | exact Or.inr rfl) (x_tup (a_cons (x_tup (a_cons x_int (a_cons x_int (a_cons x_int (a_cons x_int a_nil))))) (a_cons (x_tup (a_cons x_int (a_cons x_int a_nil))) (a_cons (x_tup (a_cons x_int (a_cons x_int (a_cons x_int a_nil)))) (a_cons (x_tup (a_cons x_int (a_cons x_int a_nil))) (a_cons (x_tup (a_cons x_int (a_cons x_int a_nil))) (a_cons (x_tup a_nil) (a_cons (x_tup (a_cons x_int (a_cons x_int a_nil))) a_nil)))))))))
noncomputable def ms__law_hand_6 : MS := (mRet (mAndV (mCb m__law_same (mCons (mV 0) (mCons (mV 1) mNil))) (mCb m__law_same (mCons (mTup (mCons (mCb m_share (mCons (mTup (mCons (mTup (mCons (mC (.int 5)) mNil)) (mCons (mC (.int 6)) (mCons (mC (.int 1)) (mCons (mTup mNil) mNil))))) mNil)) (mCons (mCb m_share (mCons (mTup (mCons (mTup (mCons (mC (.int 0)) (mCons (mC (.int 5)) mNil))) (mCons (mC (.int 9)) (mCons (mC (.int 4)) (mCons (mTup (mCons (mC (.int 0)) (mCons (mC (.int 1)) (mCons (mC (.int 2)) mNil)))) mNil))))) mNil)) (mCons (mCb m_listed (mCons (mTup (mCons (mTup (mCons (mC (.int 5)) mNil)) (mCons (mC (.int 6)) (mCons (mC (.int 1)) (mCons (mTup mNil) mNil))))) (mCons (mC (.int 4)) mNil))) mNil)))) (mCons (mTup (mCons (mTup (mCons (mC (.int 0)) (mCons (mC (.int 1)) mNil))) (mCons (mTup (mCons (mC (.int 3)) (mCons (mC (.int 4)) mNil))) (mCons (mTup mNil) mNil)))) mNil)))))
theorem st__law_hand_6 (Fc : Facts K mg) (cdv : Value) (A : Around) (outer : List Env) (s : Shared) (H : Hp) (E : XK) (hr : Room (2) (A.deeper (envOfC "_law_hand" (defScope s__law_hand) s.heap.objs.size Fc.a__law_hand cdv))) : PS (cxOf CX0 P w K mg base N__law_hand "_law_hand" (defScope s__law_hand) Fc.a__law_hand cdv A outer s H E).nox (stmtAt (defBody s__law_hand) 3) (sM ⟨K, P, w⟩ (ms__law_hand_6)) :=
    (z_ret (x_and (x_call (ok__law_same Fc) (hr.mono (by decide)) (by rfl) Fc.g__law_same Fc.F__law_same.kp (b__law_same Fc) (a_cons (x_v 0) (a_cons (x_v 1) a_nil))) (x_one (x_call (ok__law_same Fc) (hr.mono (by decide)) (by rfl) Fc.g__law_same Fc.F__law_same.kp (b__law_same Fc) (a_cons (x_tup (a_cons (x_call (ok_share Fc) (hr.mono (by decide)) (by rfl) Fc.g_share Fc.F_share.kp (b_share Fc) (a_cons (x_tup (a_cons (x_tup (a_cons x_int a_nil)) (a_cons x_int (a_cons x_int (a_cons (x_tup a_nil) a_nil))))) a_nil)) (a_cons (x_call (ok_share Fc) (hr.mono (by decide)) (by rfl) Fc.g_share Fc.F_share.kp (b_share Fc) (a_cons (x_tup (a_cons (x_tup (a_cons x_int (a_cons x_int a_nil))) (a_cons x_int (a_cons x_int (a_cons (x_tup (a_cons x_int (a_cons x_int (a_cons x_int a_nil)))) a_nil))))) a_nil)) (a_cons (x_call (ok_listed Fc) (hr.mono (by decide)) (by rfl) Fc.g_listed Fc.F_listed.kp (b_listed Fc) (a_cons (x_tup (a_cons (x_tup (a_cons x_int a_nil)) (a_cons x_int (a_cons x_int (a_cons (x_tup a_nil) a_nil))))) (a_cons x_int a_nil))) a_nil)))) (a_cons (x_tup (a_cons (x_tup (a_cons x_int (a_cons x_int a_nil))) (a_cons (x_tup (a_cons x_int (a_cons x_int a_nil))) (a_cons (x_tup a_nil) a_nil)))) a_nil))))))
noncomputable def m__law_hand : List D → Sto → Option (D × Sto) := mDef 2 0 (mSeq (ms__law_hand_0)
    (mSeq (ms__law_hand_2)
    (mSeq (ms__law_hand_4)
    (ms__law_hand_6))))
theorem ok__law_hand (Fc : Facts K mg) : FnOk P w K mg base CX0 3 Fc.a__law_hand Fc.d__law_hand [] (spM ⟨K, P, w⟩ m__law_hand) := x_def (k := 2) Fc.F__law_hand sc__law_hand rfl rfl fun cdv A outer s H E hr =>
    (z_cons (st__law_hand_0 Fc cdv A outer s H E hr)
    (z_cons (st__law_hand_2 Fc cdv A outer s H E hr)
    (z_cons (st__law_hand_4 Fc cdv A outer s H E hr)
    (z_one (st__law_hand_6 Fc cdv A outer s H E hr)))))
abbrev N_law : List Str := ["script", "vat", "lap", "rests", "few", "one"]
theorem sc_law : FnScope N_law ["script"] (defScope s_law) := ⟨rfl, rfl, rfl, by decide +kernel, rfl, by decide +kernel, by decide +kernel⟩
noncomputable def ms_law_0 : MS := (mIfS (mNot (mT (mCb m__law_asked (mCons (mV 1) (mCons (mCb m__law_round (mCons (mV 1) (mCons (mC (.int 30)) (mCons (mC (.int 12)) (mCons (mC (.int 8)) mNil))))) (mCons (mOp (fAdd false) (mC (.int 60)) (mCb m__law_draw (mCons (mV 1) (mCons (mC (.int 7)) (mCons (mC (.int 200)) mNil))))) mNil))))))
    (mRet (mC (.bl false)))
    mNext)
theorem st_law_0 (Fc : Facts K mg) (cdv : Value) (A : Around) (outer : List Env) (s : Shared) (H : Hp) (E : XK) (hr : Room (3) (A.deeper (envOfC "law" (defScope s_law) s.heap.objs.size Fc.a_law cdv))) : PS (cxOf CX0 P w K mg base N_law "law" (defScope s_law) Fc.a_law cdv A outer s H E).nox (stmtAt (bodyOf (stmtAt (defBody s_law) 2)) 0) (sM ⟨K, P, w⟩ (ms_law_0)) :=
    (z_if (y_not (y_t (x_call (ok__law_asked Fc) (hr.mono (by decide)) (by rfl) Fc.g__law_asked Fc.F__law_asked.kp (b__law_asked Fc) (a_cons (x_v 1) (a_cons (x_call (ok__law_round Fc) (hr.mono (by decide)) (by rfl) Fc.g__law_round Fc.F__law_round.kp (b__law_round Fc) (a_cons (x_v 1) (a_cons x_int (a_cons x_int (a_cons x_int a_nil))))) (a_cons (x_add false x_int (x_call (ok__law_draw Fc) (hr.mono (by decide)) (by rfl) Fc.g__law_draw Fc.F__law_draw.kp (b__law_draw Fc) (a_cons (x_v 1) (a_cons x_int (a_cons x_int a_nil))))) a_nil))))))
    (z_one (z_ret x_bl))
    z_nil)
noncomputable def ms_law_2 : MS := (mIfS (mNot (mT (mCb m__law_asked (mCons (mV 1) (mCons (mCb m__law_form (mCons (mTup (mCons (mC (.int 0)) (mCons (mC (.int 2)) (mCons (mC (.int 3)) mNil)))) (mCons (mC (.int 5)) (mCons (mC (.int 4)) (mCons (mV 3) mNil))))) (mCons (mC (.int 40)) mNil))))))
    (mRet (mC (.bl false)))
    mNext)
theorem st_law_2 (Fc : Facts K mg) (cdv : Value) (A : Around) (outer : List Env) (s : Shared) (H : Hp) (E : XK) (hr : Room (3) (A.deeper (envOfC "law" (defScope s_law) s.heap.objs.size Fc.a_law cdv))) : PS (cxOf CX0 P w K mg base N_law "law" (defScope s_law) Fc.a_law cdv A outer s H E).nox (stmtAt (bodyOf (stmtAt (defBody s_law) 3)) 0) (sM ⟨K, P, w⟩ (ms_law_2)) :=
    (z_if (y_not (y_t (x_call (ok__law_asked Fc) (hr.mono (by decide)) (by rfl) Fc.g__law_asked Fc.F__law_asked.kp (b__law_asked Fc) (a_cons (x_v 1) (a_cons (x_call (ok__law_form Fc) (hr.mono (by decide)) (by rfl) Fc.g__law_form Fc.F__law_form.kp (b__law_form Fc) (a_cons (x_tup (a_cons x_int (a_cons x_int (a_cons x_int a_nil)))) (a_cons x_int (a_cons x_int (a_cons (x_v 3) a_nil))))) (a_cons x_int a_nil))))))
    (z_one (z_ret x_bl))
    z_nil)
noncomputable def ms_law_4 : MS := (mAsg (mCb m__law_vat (mCons (mV 0) mNil)) (mgName 1))
theorem st_law_4 (Fc : Facts K mg) (cdv : Value) (A : Around) (outer : List Env) (s : Shared) (H : Hp) (E : XK) (hr : Room (3) (A.deeper (envOfC "law" (defScope s_law) s.heap.objs.size Fc.a_law cdv))) : PS (cxOf CX0 P w K mg base N_law "law" (defScope s_law) Fc.a_law cdv A outer s H E).nox (stmtAt (defBody s_law) 0) (sM ⟨K, P, w⟩ (ms_law_4)) :=
    (z_set 1 sc_law.nd rfl (by first | exact Or.inl rfl | exact Or.inr rfl) (x_call (ok__law_vat Fc) (hr.mono (by decide)) (by rfl) Fc.g__law_vat Fc.F__law_vat.kp (b__law_vat Fc) (a_cons (x_v 0) a_nil)))
noncomputable def ms_law_6 : MS := (mIfS (mNot (mT (mCb m__law_hand mNil)))
    (mRet (mC (.bl false)))
    mNext)
theorem st_law_6 (Fc : Facts K mg) (cdv : Value) (A : Around) (outer : List Env) (s : Shared) (H : Hp) (E : XK) (hr : Room (3) (A.deeper (envOfC "law" (defScope s_law) s.heap.objs.size Fc.a_law cdv))) : PS (cxOf CX0 P w K mg base N_law "law" (defScope s_law) Fc.a_law cdv A outer s H E).nox (stmtAt (defBody s_law) 1) (sM ⟨K, P, w⟩ (ms_law_6)) :=
    (z_if (y_not (y_t (x_call0 (ok__law_hand Fc) (hr.mono (by decide)) (by rfl) Fc.g__law_hand Fc.F__law_hand.kp (b__law_hand Fc))))
    (z_one (z_ret x_bl))
    z_nil)
noncomputable def ms_law_8 : MS := (mFor (miRng1 (mCons (mC (.int 6)) mNil)) (.name 2)
    (ms_law_0))
theorem st_law_8 (Fc : Facts K mg) (cdv : Value) (A : Around) (outer : List Env) (s : Shared) (H : Hp) (E : XK) (hr : Room (3) (A.deeper (envOfC "law" (defScope s_law) s.heap.objs.size Fc.a_law cdv))) : PS (cxOf CX0 P w K mg base N_law "law" (defScope s_law) Fc.a_law cdv A outer s H E).nox (stmtAt (defBody s_law) 2) (sM ⟨K, P, w⟩ (ms_law_8)) :=
    (z_for PassesOwn.never rfl (i_rng1 (by rfl) Fc.b_range (a_cons x_int a_nil)) (t_name 2 sc_law.nd rfl (by first | exact Or.inl rfl | exact Or.inr rfl))
    (z_one (st_law_0 Fc cdv A outer s H E hr)))
noncomputable def ms_law_10 : MS := (mFor (miSeq (mTup (mCons (mTup (mCons (mOp (fAdd false) (mC (.int 1)) (mCb m__law_draw (mCons (mV 1) (mCons (mC (.int 4)) (mCons (mC (.int 3)) mNil))))) mNil)) (mCons (mTup mNil) mNil)))) (.name 3)
    (ms_law_2))
theorem st_law_10 (Fc : Facts K mg) (cdv : Value) (A : Around) (outer : List Env) (s : Shared) (H : Hp) (E : XK) (hr : Room (3) (A.deeper (envOfC "law" (defScope s_law) s.heap.objs.size Fc.a_law cdv))) : PS (cxOf CX0 P w K mg base N_law "law" (defScope s_law) Fc.a_law cdv A outer s H E).nox (stmtAt (defBody s_law) 3) (sM ⟨K, P, w⟩ (ms_law_10)) :=
    (z_for PassesOwn.never rfl (i_seq (x_tup (a_cons (x_tup (a_cons (x_add false x_int (x_call (ok__law_draw Fc) (hr.mono (by decide)) (by rfl) Fc.g__law_draw Fc.F__law_draw.kp (b__law_draw Fc) (a_cons (x_v 1) (a_cons x_int (a_cons x_int a_nil))))) a_nil)) (a_cons (x_tup a_nil) a_nil)))) (t_name 3 sc_law.nd rfl (by first | exact Or.inl rfl | exact Or.inr rfl))
    (z_one (st_law_2 Fc cdv A outer s H E hr)))
noncomputable def ms_law_12 : MS := (mIfS (mTB (mOp fNe (mCb m__law_draw (mCons (mV 1) (mCons (mC (.int 7)) (mCons (mC (.int 7)) mNil)))) (mC (.int 3))))
    (mRet (mC (.bl true)))
    mNext)
theorem st_law_12 (Fc : Facts K mg) (cdv : Value) (A : Around) (outer : List Env) (s : Shared) (H : Hp) (E : XK) (hr : Room (3) (A.deeper (envOfC "law" (defScope s_law) s.heap.objs.size Fc.a_law cdv))) : PS (cxOf CX0 P w K mg base N_law "law" (defScope s_law) Fc.a_law cdv A outer s H E).nox (stmtAt (defBody s_law) 4) (sM ⟨K, P, w⟩ (ms_law_12)) :=
    (z_if (y_k (k_ne hr) (x_call (ok__law_draw Fc) (hr.mono (by decide)) (by rfl) Fc.g__law_draw Fc.F__law_draw.kp (b__law_draw Fc) (a_cons (x_v 1) (a_cons x_int (a_cons x_int a_nil)))) x_int)
    (z_one (z_ret x_bl))
    z_nil)
noncomputable def ms_law_14 : MS := (mAsg (mSl false (mLc false (miRng1 (mCons (mC (.int 200)) mNil)) (.name 5) mYes (mOp (fMul false) (mC (.int 2)) (mV 5)) [5]) (mSome (mCb m__law_draw (mCons (mV 1) (mCons (mC (.int 2)) (mCons (mC (.int 60)) mNil))))) mNone) (mgName 4))
theorem st_law_14 (Fc : Facts K mg) (cdv : Value) (A : Around) (outer : List Env) (s : Shared) (H : Hp) (E : XK) (hr : Room (3) (A.deeper (envOfC "law" (defScope s_law) s.heap.objs.size Fc.a_law cdv))) : PS (cxOf CX0 P w K mg base N_law "law" (defScope s_law) Fc.a_law cdv A outer s H E).nox (stmtAt (defBody s_law) 5) (sM ⟨K, P, w⟩ (ms_law_14)) :=
    (z_set 4 sc_law.nd rfl (by first | exact Or.inl rfl | exact Or.inr rfl) (x_sl false (x_lc false (T := (.name 5)) (own := [("one", 5)]) rfl sc_law.nd (i_rng1 (by rfl) Fc.b_range (a_cons x_int a_nil)) (by first | exact blkOk_by (N := N_law) (sc := defScope s_law) (by decide +kernel) | exact blkOk_by (by kernel_rfl)) rfl (fun _ _ _ _ _ => (t_name 5 sc_law.nd rfl (by first | exact Or.inl rfl | exact Or.inr rfl))) (fun _ _ _ _ _ => cs_nil) (fun _ _ _ _ _ => (x_mul false x_int (x_v 5)))) (o_some (x_call (ok__law_draw Fc) (hr.mono (by decide)) (by rfl) Fc.g__law_draw Fc.F__law_draw.kp (b__law_draw Fc) (a_cons (x_v 1) (a_cons x_int (a_cons x_int a_nil))))) o_none))
noncomputable def ms_law_16 : MS := (mIfS (mNot (mT (mCb m__law_asked (mCons (mV 1) (mCons (mCb m__law_form (mCons (mV 4) (mCons (mC (.int 400)) (mCons (mC (.int 60)) (mCons (mTup (mCons (mC (.int 1)) (mCons (mOp (fAdd false) (mC (.int 1)) (mOp (fMul false) (mC (.int 2)) (mCb m__law_draw (mCons (mV 1) (mCons (mC (.int 4)) (mCons (mC (.int 30)) mNil)))))) mNil))) mNil))))) (mCons (mC (.int 700)) mNil))))))
    (mRet (mC (.bl false)))
    mNext)
theorem st_law_16 (Fc : Facts K mg) (cdv : Value) (A : Around) (outer : List Env) (s : Shared) (H : Hp) (E : XK) (hr : Room (3) (A.deeper (envOfC "law" (defScope s_law) s.heap.objs.size Fc.a_law cdv))) : PS (cxOf CX0 P w K mg base N_law "law" (defScope s_law) Fc.a_law cdv A outer s H E).nox (stmtAt (defBody s_law) 6) (sM ⟨K, P, w⟩ (ms_law_16)) :=
    (z_if (y_not (y_t (x_call (ok__law_asked Fc) (hr.mono (by decide)) (by rfl) Fc.g__law_asked Fc.F__law_asked.kp (b__law_asked Fc) (a_cons (x_v 1) (a_cons (x_call (ok__law_form Fc) (hr.mono (by decide)) (by rfl) Fc.g__law_form Fc.F__law_form.kp (b__law_form Fc) (a_cons (x_v 4) (a_cons x_int (a_cons x_int (a_cons (x_tup (a_cons x_int (a_cons (x_add false x_int (x_mul false x_int (x_call (ok__law_draw Fc) (hr.mono (by decide)) (by rfl) Fc.g__law_draw Fc.F__law_draw.kp (b__law_draw Fc) (a_cons (x_v 1) (a_cons x_int (a_cons x_int a_nil)))))) a_nil))) a_nil))))) (a_cons x_int a_nil))))))
    (z_one (z_ret x_bl))
    z_nil)
noncomputable def ms_law_18 : MS := (mRet (mCb m__law_asked (mCons (mV 1) (mCons (mCb m__law_round (mCons (mV 1) (mCons (mC (.int 400)) (mCons (mC (.int 60)) (mCons (mC (.int 60)) mNil))))) (mCons (mIf (mTB (mOp fEq (mCb m__law_draw (mCons (mV 1) (mCons (mC (.int 5)) (mCons (mC (.int 2)) mNil)))) (mC (.int 0)))) (mC (.int 100000)) (mC (.int 9999))) mNil)))))
theorem st_law_18 (Fc : Facts K mg) (cdv : Value) (A : Around) (outer : List Env) (s : Shared) (H : Hp) (E : XK) (hr : Room (3) (A.deeper (envOfC "law" (defScope s_law) s.heap.objs.size Fc.a_law cdv))) : PS (cxOf CX0 P w K mg base N_law "law" (defScope s_law) Fc.a_law cdv A outer s H E).nox (stmtAt (defBody s_law) 7) (sM ⟨K, P, w⟩ (ms_law_18)) :=
    (z_ret (x_call (ok__law_asked Fc) (hr.mono (by decide)) (by rfl) Fc.g__law_asked Fc.F__law_asked.kp (b__law_asked Fc) (a_cons (x_v 1) (a_cons (x_call (ok__law_round Fc) (hr.mono (by decide)) (by rfl) Fc.g__law_round Fc.F__law_round.kp (b__law_round Fc) (a_cons (x_v 1) (a_cons x_int (a_cons x_int (a_cons x_int a_nil))))) (a_cons (x_if (y_k (k_eq hr) (x_call (ok__law_draw Fc) (hr.mono (by decide)) (by rfl) Fc.g__law_draw Fc.F__law_draw.kp (b__law_draw Fc) (a_cons (x_v 1) (a_cons x_int (a_cons x_int a_nil)))) x_int) x_int x_int) a_nil)))))
noncomputable def m_law : List D → Sto → Option (D × Sto) := mDef 6 1 (mSeq (ms_law_4)
    (mSeq (ms_law_6)
    (mSeq (ms_law_8)
    (mSeq (ms_law_10)
    (mSeq (ms_law_12)
    (mSeq (ms_law_14)
    (mSeq (ms_law_16)
    (ms_law_18))))))))
theorem ok_law (Fc : Facts K mg) : FnOk P w K mg base CX0 4 Fc.a_law Fc.d_law ["script"] (spM ⟨K, P, w⟩ m_law) := x_def (k := 3) Fc.F_law sc_law rfl rfl fun cdv A outer s H E hr =>
    (z_cons (st_law_4 Fc cdv A outer s H E hr)
    (z_cons (st_law_6 Fc cdv A outer s H E hr)
    (z_cons (st_law_8 Fc cdv A outer s H E hr)
    (z_cons (st_law_10 Fc cdv A outer s H E hr)
    (z_cons (st_law_12 Fc cdv A outer s H E hr)
    (z_cons (st_law_14 Fc cdv A outer s H E hr)
    (z_cons (st_law_16 Fc cdv A outer s H E hr)
    (z_one (st_law_18 Fc cdv A outer s H E hr)))))))))
end
end K05


namespace K05
open PySem PySem.Spec PyProof.Rows L2 My
local macro_rules | `(tactic| walk_at "ev") => `(tactic| simp only [mDef, mSeq, mAsg, mV_eq, mC, mOp, mUn, mCb, mNil, mCons, mTup, mIfS, mTB, mT, mRet, mNext, mgTup, mgCons, mgNil, mgT, mgName, setTg, setTgs, mIf, mAnd, mOr, mNot, mAndV, mOrV, mNotV, fB, fLt_int, fLe, fGt, fGe, fAdd_int, fSub_int, fMod_int, fDiv_int, fMul_int, fNeg_int, fIn_tup, fIn_lst, settle_same, fIx, look_tup, look_d, look_lst, look_fro, lookL_lst, atI_0, atI_1, atI_2, atI_3, fLen_tup, fLen_lst, miSeq, srcOf, mPar, mAug, mRetN, fTuple_lst, fTuple_tup, alloc_f, fEq_int, fMaxL_2, fMinL_2, fSorted_ints, fIsN_int, fIsN_non, fNe_int, mDrop, wipeE, mYes, My.isNon, miRng1, miRng2, fInt_int, truD, fShl_int, fPow_int, fAbs_int, fEq_bl, fIsi_tt, fIsi_it, fIsi_ii, fIsi_ib, fIsi_bt, fIsi_bi, fIsi_bb, fIsi_tb, fIsi_ti, last_concat, List.dropLast_concat, look_loc, lookL_loc, fLen_loc, ixN_0, ixN_1, ixN_2, ixN_3, fSetL_loc, fAppend_loc, fPop_loc, fExtend_loc, mgSub, mMt, alloc_t, mFrz, mSl, mRev, mNone, mSome, mLst, fNeg,
  b_some, b_none, m_some, Option.join_some, List.getElem?_cons_zero, List.getElem?_cons_succ, List.set_cons_zero, List.set_cons_succ, List.map_cons, List.map_nil, List.length_cons, List.length_nil, List.replicate, List.cons_append, List.nil_append, Nat.reduceAdd, Nat.reduceSub, if_true, if_false, reduceIte, reduceCtorEq, ite_bind, Bool.false_eq_true, decide_eq_true_eq, List.length_map, decide_true, decide_false, Bool.not_true, Bool.not_false])
local macro_rules | `(tactic| walk_at "nx") => `(tactic| (refine (mSeq_nx (by (walk_at "ev"; rfl))).trans ?_))
theorem atI_ints (ns : List Int) (P : Int → Prop) (hP : ∀ n ∈ ns, P n) {i : Int} (h0 : 0 ≤ i) (h : i < ns.length) : ∃ t, atI (ns.map D.int) i = some (.int t) ∧ P t := by
  obtain ⟨x, h1, h2⟩ := atI_mem (xs := ns) h0 h
  exact ⟨x, by rw [atI_map, h1]; rfl, hP x h2⟩
theorem atI_4 {α : Type} (x y z u v : α) (l : List α) : atI (x :: y :: z :: u :: v :: l) 4 = some v := atI_nat (by omega) (by simp; omega)
theorem idx0 (n : Nat) : seqIndex? 0 (n + 1) = some 0 := by
  simp [seqIndex?]
theorem fPop0_loc {n : Nat} {st : Sto} {d : D} {ds : List D} (h : st[n]? = some (.lst (d :: ds))) : fPop (.loc n) [.int 0] st = some (d, st.set n (.lst ds)) := by
  unfold fPop
  dsimp only
  rw [h]
  dsimp only
  rw [if_pos (small_ok (by omega)), List.length_cons, idx0]
  rfl
/-- the vat's state -/
structure Vat (st : Sto) : Prop where
  ex : ∃ (hs row : List Int) (turns mixed draws : Int) (rest : Sto), hs.length = 8 ∧ (∀ h ∈ hs, 0 ≤ h) ∧ rest.all nofO = true ∧ st = .lst (hs.map .int) :: .lst (row.map .int) :: .lst [.loc 1, .int turns, .int mixed, .int draws, .loc 0] :: rest
theorem draw_eq {st : Sto} (p : Vat st) {place many : Int} (h0 : 0 ≤ place) (h8 : place < 8) (hm2 : many < 10 ^ 18) : ∃ (v : Int) (st' : Sto), m__law_draw [.loc 2, .int place, .int many] st = some (.int v, st') ∧ 0 ≤ v ∧ (v < many ∨ v = 0) ∧ Vat st' ∧ st'.length = st.length := by
  obtain ⟨hs, row, turns, mixed, draws, rest, hl, hh, hn, rfl⟩ := p.ex
  let E : Option D → Option D → Option D → En := fun hb r w => [some (.loc 2), some (.int place), some (.int many), hb, r, w]
  by_cases hm : many < 2
  · refine ⟨0, _, mDef_rt rfl (mSeq_rt ?_), Int.le_refl 0, .inr rfl, p, rfl⟩
    walk_at "ev"
    rw [if_pos hm]
  · let st1 : Sto := .lst (hs.map .int) :: .lst (row.map .int) :: .lst [.loc 1, .int turns, .int mixed, .int (draws + 1), .loc 0] :: rest
    have a0 : (mIfS (mTB (mOp fLt (mV 2) (mC (.int 2)))) (mRet (mC (.int 0))) mNext) (E none none none) (.lst (hs.map .int) :: .lst (row.map .int) :: .lst [.loc 1, .int turns, .int mixed, .int draws, .loc 0] :: rest) = some (.nx (E none none none), .lst (hs.map .int) :: .lst (row.map .int) :: .lst [.loc 1, .int turns, .int mixed, .int draws, .loc 0] :: rest) := by
      dsimp only [E]; walk_at "ev"
      rw [if_neg hm]
    have a1 : ms__law_draw_4 (E none none none) (.lst (hs.map .int) :: .lst (row.map .int) :: .lst [.loc 1, .int turns, .int mixed, .int draws, .loc 0] :: rest) = some (.nx (E none (some (.loc 1)) none), st1) := by
      unfold ms__law_draw_4
      dsimp only [E, st1]; walk_at "ev"
      rw [if_pos (szle (by decide))]
    have hm0 : (0 : Int) < many := by omega
    cases row with
    | cons x rs =>
      let st2 : Sto := .lst (hs.map .int) :: .lst ((x / many :: rs).map .int) :: .lst [.loc 1, .int (turns + 1), .int mixed, .int (draws + 1), .loc 0] :: rest
      have t : (mT (mV 4)) (E none (some (.loc 1)) none) st1 = some (true, st1) := by
        dsimp only [E, st1]; walk_at "ev"
        rfl
      have a2 : ms__law_draw_0 (E none (some (.loc 1)) none) st1 = some (.nx (E none (some (.loc 1)) (some (.int (x % many)))), st2) := by
        unfold ms__law_draw_0
        dsimp only [E, st1, st2]; walk_at "ev"
        rw [cMod_ok hm0, cDiv_ok hm0 hm2]
        walk_at "ev"
        rw [if_pos (szle (by decide))]
      obtain ⟨row', turns', a3⟩ : ∃ (row' : List Int) (turns' : Int), ms__law_draw_2 (E none (some (.loc 1)) (some (.int (x % many)))) st2 = some (.nx (E none (some (.loc 1)) (some (.int (x % many)))), .lst (hs.map .int) :: .lst (row'.map .int) :: .lst [.loc 1, .int turns', .int mixed, .int (draws + 1), .loc 0] :: rest) := by
        by_cases hb : x / many = 0 ∨ 60 ≤ turns + 1
        · refine ⟨rs, 0, ?_⟩
          unfold ms__law_draw_2
          refine (mIfS_t (st1 := st2) ?_).trans ((mSeq_nx (en' := E none (some (.loc 1)) (some (.int (x % many)))) (st' := .lst (hs.map .int) :: .lst (rs.map .int) :: .lst [.loc 1, .int (turns + 1), .int mixed, .int (draws + 1), .loc 0] :: rest) ?_).trans ?_)
          · dsimp only [E, st2]; walk_at "ev"
            rcases hb with hb | hb
            · simp [hb]
            · by_cases hz : x / many = 0
              · simp [hz]
              · simp [hz, hb]
          · dsimp only [E, st2]; walk_at "ev"
            rw [fPop0_loc (n := 1) (d := .int (x / many)) (ds := rs.map .int) rfl]
            walk_at "ev"
          · dsimp only [E]; walk_at "ev"
        · refine ⟨x / many :: rs, turns + 1, ?_⟩
          unfold ms__law_draw_2
          refine (mIfS_f (st1 := st2) ?_).trans ?_
          · dsimp only [E, st2]; walk_at "ev"
            have h1 : ¬ x / many = 0 := fun z => hb (.inl z)
            have h2 : ¬ 60 ≤ turns + 1 := fun z => hb (.inr z)
            simp [h1, h2]
          · dsimp only [E, st2]; walk_at "ev"
      refine ⟨x % many, _, mDef_rt rfl ((mSeq_nx a0).trans ((mSeq_nx a1).trans (mSeq_rt ((mIfS_t t).trans ((mSeq_nx a2).trans ((mSeq_nx a3).trans ?_)))))), Int.emod_nonneg _ (by omega), .inl (Int.emod_lt_of_pos _ hm0), ⟨hs, row', turns', mixed, draws + 1, rest, hl, hh, hn, rfl⟩, rfl⟩
      dsimp only [E]; walk_at "ev"
    | nil =>
      let mixed' : Int := (mixed * 48271 + (draws + 1) * 65539 + 3) % 2147483137
      let st2 : Sto := .lst (hs.map .int) :: .lst [] :: .lst [.loc 1, .int turns, .int mixed', .int (draws + 1), .loc 0] :: rest
      have t : ms__law_draw_6 (E none (some (.loc 1)) none) st1 = some (.nx (E none (some (.loc 1)) none), st1) := by
        unfold ms__law_draw_6
        dsimp only [E, st1]; walk_at "ev"
        rfl
      have a2 : ms__law_draw_8 (E none (some (.loc 1)) none) st1 = some (.nx (E none (some (.loc 1)) none), st2) := by
        unfold ms__law_draw_8
        dsimp only [E, st1, st2, mixed']; walk_at "ev"
        rw [cMul_r (by omega), cMul_r (by omega), cMod_ok (by omega)]
        rfl
      obtain ⟨hb, hb1, hb2⟩ := atI_ints hs (fun t => 0 ≤ t) hh (i := place) h0 (by rw [hl]; exact h8)
      have a3 : (mAsg (mOp fIx (mOp fIx (mV 0) (mC (.int 4))) (mV 1)) (mgName 3)) (E none (some (.loc 1)) none) st2 = some (.nx (E (some (.int hb)) (some (.loc 1)) none), st2) := by
        dsimp only [E, st2]; walk_at "ev"
        rw [atI_4]
        walk_at "ev"
        rw [hb1]
        walk_at "ev"
      by_cases hlt : hb < 2
      · refine ⟨hb * (many - 1), st2, mDef_rt rfl ((mSeq_nx a0).trans ((mSeq_nx a1).trans ((mSeq_nx t).trans ((mSeq_nx a2).trans ((mSeq_nx a3).trans (mSeq_rt ?_)))))), Int.mul_nonneg hb2 (by omega), .inl ?_, ⟨hs, [], turns, mixed', draws + 1, rest, hl, hh, hn, rfl⟩, rfl⟩
        · dsimp only [E, st2]; walk_at "ev"
          rw [if_pos hlt, cMul_l (by omega)]
          walk_at "ev"
        · obtain rfl | rfl : hb = 0 ∨ hb = 1 := by omega
          · omega
          · omega
      · refine ⟨mixed' / 19 % many, st2, mDef_rt rfl ((mSeq_nx a0).trans ((mSeq_nx a1).trans ((mSeq_nx t).trans ((mSeq_nx a2).trans ((mSeq_nx a3).trans ((mSeq_nx (en' := E (some (.int hb)) (some (.loc 1)) none) (st' := st2) ?_).trans ?_)))))), Int.emod_nonneg _ (by omega), .inl (Int.emod_lt_of_pos _ hm0), ⟨hs, [], turns, mixed', draws + 1, rest, hl, hh, hn, rfl⟩, rfl⟩
        · dsimp only [E, st2]; walk_at "ev"
          rw [if_neg hlt]
        · dsimp only [E, st2]; walk_at "ev"
          rw [cDiv_ok (by omega) (by omega)]
          walk_at "ev"
          rw [cMod_ok hm0]
          walk_at "ev"
end K05


namespace K05
open PySem PySem.Spec PyProof.Rows L2 My
local macro_rules | `(tactic| walk_at "ev") => `(tactic| simp only [mDef, mSeq, mAsg, mV_eq, mC, mOp, mUn, mCb, mNil, mCons, mTup, mIfS, mTB, mT, mRet, mNext, mgTup, mgCons, mgNil, mgT, mgName, setTg, setTgs, mIf, mAnd, mOr, mNot, mAndV, mOrV, mNotV, fB, fLt_int, fLe, fGt, fGe, fAdd_int, fSub_int, fMod_int, fDiv_int, fMul_int, fNeg_int, fIn_tup, fIn_lst, settle_same, fIx, look_tup, look_d, look_lst, look_fro, lookL_lst, atI_0, atI_1, atI_2, atI_3, fLen_tup, fLen_lst, miSeq, srcOf, mPar, mAug, mRetN, fTuple_lst, fTuple_tup, alloc_f, fEq_int, fMaxL_2, fMinL_2, fSorted_ints, fIsN_int, fIsN_non, fNe_int, mDrop, wipeE, mYes, My.isNon, miRng1, miRng2, fInt_int, truD, fShl_int, fPow_int, fAbs_int, fEq_bl, fIsi_tt, fIsi_it, fIsi_ii, fIsi_ib, fIsi_bt, fIsi_bi, fIsi_bb, fIsi_tb, fIsi_ti, last_concat, List.dropLast_concat, look_loc, lookL_loc, fLen_loc, ixN_0, ixN_1, ixN_2, ixN_3, fSetL_loc, fAppend_loc, fPop_loc, fExtend_loc, mgSub, mMt, alloc_t, mFrz, mSl, mRev, mNone, mSome, mLst, fNeg,
  b_some, b_none, m_some, Option.join_some, List.getElem?_cons_zero, List.getElem?_cons_succ, List.set_cons_zero, List.set_cons_succ, List.map_cons, List.map_nil, List.length_cons, List.length_nil, List.replicate, List.cons_append, List.nil_append, Nat.reduceAdd, Nat.reduceSub, if_true, if_false, reduceIte, reduceCtorEq, ite_bind, Bool.false_eq_true, decide_eq_true_eq, List.length_map, decide_true, decide_false, Bool.not_true, Bool.not_false])
local macro_rules | `(tactic| walk_at "nx") => `(tactic| (refine (mSeq_nx (by (walk_at "ev"; rfl))).trans ?_))
inductive PI : Nat → D → Prop where
  | non (n : Nat) : PI n .non
  | int (n : Nat) (i : Int) : PI n (.int i)
  | tup (n : Nat) (ds : List D) (hl : ds.length < 1000000) (h : ∀ d ∈ ds, PI n d) : PI (n + 1) (.tup ds)
theorem PI.mono {n m : Nat} {d : D} (h : PI n d) (l : n ≤ m) : PI m d := by
  induction h generalizing m with
  | non => exact .non m
  | int n i => exact .int m i
  | tup n ds hl h ih =>
    obtain ⟨k, rfl⟩ : ∃ k, m = k + 1 := ⟨m - 1, by omega⟩
    exact .tup k ds hl fun d hd => ih d hd (by omega)
mutual
def wt : D → Nat
  | .tup ds => 1 + wts ds
  | _ => 1
def wts : List D → Nat
  | [] => 0
  | d :: ds => wt d + wts ds
end
theorem wts_cons (d : D) (ds : List D) : wts (d :: ds) = wt d + wts ds := by rw [wts]
theorem wt_tup (ds : List D) : wt (.tup ds) = 1 + wts ds := by rw [wt]
theorem wts_append : ∀ (a b : List D), wts (a ++ b) = wts a + wts b
  | [], b => by simp [wts]
  | d :: a, b => by
    rw [List.cons_append, wts_cons, wts_cons, wts_append a b]
    omega
def wp : D → Nat
  | .tup (e :: _) => wt e
  | _ => 0
def wps (ds : List D) : Nat := (ds.map wp).sum
theorem wps_pairs (es : List D) : wps (es.map fun e => .tup [e, e]) = wts es := by
  induction es with
  | nil => rfl
  | cons e es ih =>
    unfold wps at ih ⊢
    rw [List.map_cons, List.map_cons, List.sum_cons, ih, wts_cons]
    rfl
theorem wt_pos (d : D) : 0 < wt d := by
  cases d <;> unfold wt <;> omega
theorem top_get (st : Sto) (x : SO) : (st ++ [x])[st.length]? = some x := by simp
theorem top_set (st : Sto) (x y : SO) : (st ++ [x]).set st.length y = st ++ [y] := by simp
def prs (es : List D) : List D := es.map fun e => .tup [e, e]
theorem settle_top (st : Sto) (x : SO) (d : D) (h : clo st.length d = true) : My.settle st d (st ++ [x]) = (d, st) := by
  unfold My.settle
  rw [if_neg (by simp), if_pos ⟨h, fun i hi => .inl (List.getElem?_append_left hi)⟩]
  simp
theorem same_step {k : Nat} {e : D} (h : PI k e) (a b : D) (st : Sto) (es : List D) (x : Option D) (hz : (prs es).length < 1000000) :
    ∃ (es' : List D) (y : Option D), ms__law_same_20 [some a, some b, some (.loc st.length), some e, some e, x] (st ++ [.lst (prs es)]) = some (.nx [some a, some b, some (.loc st.length), some e, some e, y], st ++ [.lst (prs (es ++ es'))]) ∧ (∀ d ∈ es', PI k d) ∧ wts es' + 1 = wt e ∧ es'.length < 1000000 := by
  cases h with
  | non =>
    refine ⟨[], x, ?_, by simp, rfl, by simp⟩
    unfold ms__law_same_20
    rw [List.append_nil]
    walk_at "ev"
  | int _ i =>
    refine ⟨[], x, ?_, by simp, rfl, by simp⟩
    unfold ms__law_same_20 ms__law_same_16 ms__law_same_14 ms__law_same_2
    rw [List.append_nil]
    walk_at "ev"
  | tup n ds hl h =>
    refine ⟨ds, x, ?_, fun d hd => (h d hd).mono (by omega), by rw [wt_tup]; omega, hl⟩
    have lc : ∀ s, mLc false (miRng1 (mCons (mCb fLen (mCons (mV 4) mNil)) mNil)) (.name 5) mYes (mTup (mCons (mOp fIx (mV 3) (mV 5)) (mCons (mOp fIx (mV 4) (mV 5)) mNil))) [5] [some a, some b, some (.loc st.length), some (.tup ds), some (.tup ds), x] s = some (.lst (prs ds), s) := by
      intro s
      rw [lc_ints (ns := rngI 0 ds.length) (st1 := s) (by
        walk_at "ev"
        rw [if_pos (small_ok (by omega)), show ((ds.length : Int)).toNat = ds.length by omega, rngD_eq]) (fun _ => true) (fun i => match atI ds i with | some d => .tup [d, d] | none => .non) (by rw [length_rngI]; exact szlt (by omega)) (fun i hi => by
          have hi := mem_rngI.mp hi
          obtain ⟨d, hd, _⟩ := atI_mem (xs := ds) (i := i) hi.1 (by omega)
          refine ⟨[some a, some b, some (.loc st.length), some (.tup ds), some (.tup ds), some (.int i)], rfl, rfl, fun _ => ?_⟩
          walk_at "ev"
          rw [hd]
          walk_at "ev"
          rw [if_pos (szle (by decide))])]
      rw [List.filter_eq_self.mpr fun _ _ => rfl]
      show some (D.lst _, s) = _
      congr 3
      unfold rngI prs
      rw [List.map_map]
      apply List.ext_getElem?
      intro i
      rw [List.getElem?_map, List.getElem?_map]
      by_cases hi : i < ds.length
      · rw [List.getElem?_range hi, List.getElem?_eq_getElem hi]
        show some (match atI ds (0 + (i : Int)) with | some d => D.tup [d, d] | none => .non) = _
        rw [Int.zero_add, atI_natCast, List.getElem?_eq_getElem hi]
        rfl
      · rw [List.getElem?_eq_none (by rw [List.length_range]; omega), List.getElem?_eq_none (by omega)]
        rfl
    have key : ∀ m : ME, (∀ s, m [some a, some b, some (.loc st.length), some (.tup ds), some (.tup ds), x] s = some (.lst (prs ds), s)) → (mDrop (mMt fExtend (mV 2) (mCons m mNil))) [some a, some b, some (.loc st.length), some (.tup ds), some (.tup ds), x] (st ++ [.lst (prs es)]) = some (.nx [some a, some b, some (.loc st.length), some (.tup ds), some (.tup ds), x], st ++ [.lst (prs (es ++ ds))]) := by
      intro m hm
      walk_at "ev"
      rw [top_get]
      walk_at "ev"
      rw [hm]
      walk_at "ev"
      rw [top_get]
      dsimp only
      have l2 : (prs ds).length < 1000000 := by
        unfold prs
        rw [List.length_map]
        exact hl
      rw [if_pos (szle (by omega)), top_set]
      walk_at "ev"
      unfold prs
      rw [List.map_append]
    have e3 : ms__law_same_10 [some a, some b, some (.loc st.length), some (.tup ds), some (.tup ds), x] (st ++ [.lst (prs es)]) = some (.nx [some a, some b, some (.loc st.length), some (.tup ds), some (.tup ds), x], st ++ [.lst (prs (es ++ ds))]) := key _ lc
    unfold ms__law_same_20 ms__law_same_16 ms__law_same_14 ms__law_same_12 ms__law_same_6 ms__law_same_8
    refine (mIfS_f (st1 := st ++ [.lst (prs es)]) ?_).trans ((mIfS_f (st1 := st ++ [.lst (prs es)]) ?_).trans ((mIfS_f (st1 := st ++ [.lst (prs es)]) ?_).trans ((mIfS_f (st1 := st ++ [.lst (prs es)]) ?_).trans ((mSeq_nx (en' := [some a, some b, some (.loc st.length), some (.tup ds), some (.tup ds), x]) (st' := st ++ [.lst (prs es)]) ?_).trans ((mSeq_nx (en' := [some a, some b, some (.loc st.length), some (.tup ds), some (.tup ds), x]) (st' := st ++ [.lst (prs es)]) ?_).trans e3)))))
    · walk_at "ev"
      simp [fIsN_tup]
    · walk_at "ev"
    · walk_at "ev"
    · walk_at "ev"
      rw [fIsi_ts]
      rfl
    · walk_at "ev"
      rw [show fIsi [.tup ds, .ty "list"] (st ++ [.lst (prs es)]) = some (.bl false, st ++ [.lst (prs es)]) from rfl]
      walk_at "ev"
    · walk_at "ev"
theorem len_wts : ∀ es : List D, es.length ≤ wts es
  | [] => by simp
  | e :: es => by
    rw [wts_cons, List.length_cons]
    have := wt_pos e
    have := len_wts es
    omega
theorem same_eq {k : Nat} {d : D} (h : PI k d) (hw : wt d < 900000) (st : Sto) : m__law_same [d, d] st = some (.bl true, st) := by
  let E : Option D → Option D → Option D → En := fun x y z => [some d, some d, some (.loc st.length), x, y, z]
  have a0 : ms__law_same_22 [some d, some d, none, none, none, none] st = some (.nx (E none none none), st ++ [.lst (prs [d])]) := by
    unfold ms__law_same_22
    dsimp only [E]; walk_at "ev"
    rw [if_pos (szle (by decide))]
    rfl
  obtain ⟨o, s1, a1, q⟩ := wh_inv (c := mT (mV 2)) (b := mSeq (ms__law_same_18) (ms__law_same_20)) (en := E none none none) (st := st ++ [.lst (prs [d])])
    (fun en s => ∃ es x y z, en = E x y z ∧ s = st ++ [.lst (prs es)] ∧ (∀ e ∈ es, PI k e) ∧ wts es < 900000)
    (fun _ s => match s[st.length]? with | some (.lst ds) => wps ds | _ => 0)
    (fun en s => ∃ x y z, en = E x y z ∧ s = st ++ [.lst []]) (fun _ _ => False)
    ⟨[d], none, none, none, rfl, rfl, by simpa using h, by rw [wts_cons]; have : wts ([] : List D) = 0 := (by rw [wts]); omega⟩ (by
      rintro en s ⟨es, x, y, z, rfl, rfl, he, hl⟩
      rcases List.eq_nil_or_concat es with hn | ⟨es', e, hn⟩
      · subst hn
        refine ⟨false, st ++ [.lst (prs [])], ?_, fun _ => ⟨x, y, z, rfl, rfl⟩, fun h => by cases h⟩
        dsimp only [E]; walk_at "ev"
        rw [top_get]
        rfl
      · rw [List.concat_eq_append] at hn
        subst hn
        refine ⟨true, st ++ [.lst (prs (es' ++ [e]))], ?_, fun h => (by cases h), fun _ => ?_⟩
        · dsimp only [E]; walk_at "ev"
          rw [top_get]
          simp [prs]
        · have b0 : ms__law_same_18 (E x y z) (st ++ [.lst (prs (es' ++ [e]))]) = some (.nx (E (some e) (some e) z), st ++ [.lst (prs es')]) := by
            unfold ms__law_same_18
            have hp : prs (es' ++ [e]) = prs es' ++ [.tup [e, e]] := by unfold prs; rw [List.map_append]; rfl
            rw [hp]
            dsimp only [E]; walk_at "ev"
            rw [top_get]
            walk_at "ev"
            rw [top_set]
          obtain ⟨es2, z', b1, b2, b3, b4⟩ := same_step (he e (by simp)) d d st es' z (by unfold prs; rw [List.length_map]; rw [wts_append] at hl; have := len_wts es'; omega)
          refine ⟨.nx (E (some e) (some e) z'), _, (mSeq_nx b0).trans b1, ⟨⟨es' ++ es2, _, _, _, rfl, rfl, ?_, ?_⟩, ?_⟩⟩
          · intro f hf
            rcases List.mem_append.mp hf with hf | hf
            · exact he f (by simp [hf])
            · exact b2 f hf
          · rw [wts_append] at hl ⊢
            rw [wts_cons] at hl
            omega
          · rw [top_get, top_get]
            dsimp only
            rw [show prs (es' ++ es2) = (es' ++ es2).map fun e => .tup [e, e] from rfl, show prs (es' ++ [e]) = (es' ++ [e]).map fun e => .tup [e, e] from rfl, wps_pairs, wps_pairs, wts_append, wts_append, wts_cons]
            have : wts ([] : List D) = 0 := by rw [wts]
            omega)
  cases o with
  | nx e =>
    obtain ⟨x, y, z, rfl, rfl⟩ := q
    have a2 : (mRet (mC (.bl true))) (E x y z) (st ++ [.lst []]) = some (.rt (.bl true), st ++ [.lst []]) := by walk_at "ev"
    unfold m__law_same mDef
    rw [if_pos (show [d, d].length = 2 from rfl)]
    show ((mSeq _ _ [some d, some d, none, none, none, none] st).bind _) = _
    rw [(mSeq_nx a0).trans ((mSeq_nx a1).trans a2)]
    show some (My.settle st (.bl true) (st ++ [.lst []])) = _
    rw [settle_top _ _ _ rfl]
  | _ => exact q.elim
end K05


namespace K05
open PySem PySem.Spec PyProof.Rows L2 My
local macro_rules | `(tactic| walk_at "ev") => `(tactic| simp only [mDef, mSeq, mAsg, mV_eq, mC, mOp, mUn, mCb, mNil, mCons, mTup, mIfS, mTB, mT, mRet, mNext, mgTup, mgCons, mgNil, mgT, mgName, setTg, setTgs, mIf, mAnd, mOr, mNot, mAndV, mOrV, mNotV, fB, fLt_int, fLe, fGt, fGe, fAdd_int, fSub_int, fMod_int, fDiv_int, fMul_int, fNeg_int, fIn_tup, fIn_lst, settle_same, fIx, look_tup, look_d, look_lst, look_fro, lookL_lst, atI_0, atI_1, atI_2, atI_3, fLen_tup, fLen_lst, miSeq, srcOf, mPar, mAug, mRetN, fTuple_lst, fTuple_tup, alloc_f, fEq_int, fMaxL_2, fMinL_2, fSorted_ints, fIsN_int, fIsN_non, fNe_int, mDrop, wipeE, mYes, My.isNon, miRng1, miRng2, fInt_int, truD, fShl_int, fPow_int, fAbs_int, fEq_bl, fIsi_tt, fIsi_it, fIsi_ii, fIsi_ib, fIsi_bt, fIsi_bi, fIsi_bb, fIsi_tb, fIsi_ti, last_concat, List.dropLast_concat, look_loc, lookL_loc, fLen_loc, ixN_0, ixN_1, ixN_2, ixN_3, fSetL_loc, fAppend_loc, fPop_loc, fExtend_loc, mgSub, mMt, alloc_t, mFrz, mSl, mRev, mNone, mSome, mLst, fNeg,
  b_some, b_none, m_some, Option.join_some, List.getElem?_cons_zero, List.getElem?_cons_succ, List.set_cons_zero, List.set_cons_succ, List.map_cons, List.map_nil, List.length_cons, List.length_nil, List.replicate, List.cons_append, List.nil_append, Nat.reduceAdd, Nat.reduceSub, if_true, if_false, reduceIte, reduceCtorEq, ite_bind, Bool.false_eq_true, decide_eq_true_eq, List.length_map, decide_true, decide_false, Bool.not_true, Bool.not_false])
local macro_rules | `(tactic| walk_at "nx") => `(tactic| (refine (mSeq_nx (by (walk_at "ev"; rfl))).trans ?_))
theorem toPys_bools : ∀ bs : List Bool, toPys (bs.map D.bl) = some (bs.map PyData.bool)
  | [] => rfl
  | b :: bs => by
    rw [List.map_cons, toPys, toPy, b_some, toPys_bools bs]
    rfl
theorem canLay_bools : ∀ bs : List Bool, PyData.canLayAll0 (bs.map PyData.bool) = true
  | [] => by rw [List.map_nil, PyData.canLayAll0]
  | b :: bs => by
    rw [List.map_cons, PyData.canLayAll0, canLay_bools bs, PyData.canLay0]
    rfl
theorem depth_bools : ∀ bs : List Bool, PyData.depthAll (bs.map PyData.bool) = 0
  | [] => by rw [List.map_nil, PyData.depthAll]
  | b :: bs => by
    rw [List.map_cons, PyData.depthAll, depth_bools bs, PyData.depth]
    rfl
theorem shaped_bools (bs : List Bool) : SeqAt.shaped (.list (bs.map PyData.bool)) = true := by
  unfold SeqAt.shaped
  rw [PyData.canLay0, canLay_bools, PyData.depth, depth_bools]
  rfl
theorem eqv_bools : ∀ as bs : List Bool, PyData.eqvAll (as.map PyData.bool) (bs.map PyData.bool) = decide (as = bs)
  | [], [] => by rw [List.map_nil, PyData.eqvAll]; rfl
  | [], b :: bs => by rw [List.map_nil, List.map_cons, PyData.eqvAll]; rfl
  | a :: as, [] => by rw [List.map_nil, List.map_cons, PyData.eqvAll]; rfl
  | a :: as, b :: bs => by
    rw [List.map_cons, List.map_cons, PyData.eqvAll, eqv_bools as bs, PyData.eqv]
    rw [Bool.eq_iff_iff]
    simp
theorem fEq_bools {n : Nat} {as bs : List Bool} {st : Sto} (h : st[n]? = some (.lst (as.map D.bl))) : fEq (.loc n) (.lst (bs.map D.bl)) st = some (.bl (decide (as = bs)), st) := by
  have d1 : dat (.loc n) st = some (.list (as.map PyData.bool)) := by
    unfold dat
    dsimp only
    rw [h]
    dsimp only
    rw [toPys_bools]
    rfl
  have d2 : dat (.lst (bs.map D.bl)) st = some (.list (bs.map PyData.bool)) := by
    unfold dat
    dsimp only
    rw [toPy, toPys_bools]
    rfl
  unfold fEq eqD
  dsimp only
  rw [d1, b_some, d2, b_some, if_pos ⟨shaped_bools _, shaped_bools _⟩, PyData.eqv, eqv_bools]
  rfl
theorem inD_bools (ms : List Bool) : inD (.bl true) (ms.map D.bl) = decide (true ∈ ms) := by
  unfold inD
  rw [List.any_map, Bool.eq_iff_iff]
  simp [eqF]
theorem flat_bools (ms : List Bool) : (ms.map D.bl).all flatD = true := by
  rw [List.all_map]
  exact List.all_eq_true.mpr fun _ _ => rfl
/-- the dict of members -/
def mems (ks : List Int) : List (Key × D) := ks.map fun k => (.inl k, .bl true)
theorem mems_any (ks : List Int) (k : Int) : ((mems ks).any fun kv => decide (kv.1 = .inl k)) = decide (k ∈ ks) := by
  unfold mems
  rw [List.any_map, Bool.eq_iff_iff]
  simp
theorem mems_put (ks : List Int) (k : Int) : putD (mems ks) (.inl k) (.bl true) = mems (if k ∈ ks then ks else ks ++ [k]) := by
  unfold putD
  rw [mems_any]
  by_cases h : k ∈ ks
  · rw [if_pos (decide_eq_true h), if_pos h]
    unfold mems
    rw [List.map_map]
    apply List.map_congr_left
    intro j _
    simp only [Function.comp]
    split <;> rfl
  · rw [if_neg (by simpa using h), if_neg h]
    unfold mems
    rw [List.map_append]
    rfl
theorem mems_val (ks : List Int) (k : Int) : (valD (mems ks) (.inl k)).isSome = decide (k ∈ ks) := by
  unfold valD
  rw [Option.isSome_map, Bool.eq_iff_iff, List.find?_isSome]
  unfold mems
  simp only [List.mem_map, Prod.exists, decide_eq_true_eq]
  constructor
  · rintro ⟨x, y, ⟨j, hj, e⟩, h⟩
    cases e
    cases h
    exact hj
  · exact fun h => ⟨_, _, ⟨k, h, rfl⟩, rfl⟩
theorem mems_keys (ks : List Int) : ((mems ks).map fun kv => keyD kv.1) = ks.map D.int := by
  unfold mems
  rw [List.map_map]
  rfl
theorem sort_lt {ks : List Int} (h : ks.Nodup) : (sortI ks).Pairwise (· < ·) := by
  have h1 := sortI_pair ks
  have h2 : (sortI ks).Nodup := (sortI_perm ks).nodup_iff.mpr h
  exact (h1.and h2).imp fun h => by
    have := h.1
    have := h.2
    omega
theorem mem_sort {ks : List Int} {k : Int} : k ∈ sortI ks ↔ k ∈ ks := (sortI_perm ks).mem_iff
end K05


namespace K05
open PySem PySem.Spec PyProof.Rows L2 My
local macro_rules | `(tactic| walk_at "ev") => `(tactic| simp only [mDef, mSeq, mAsg, mV_eq, mC, mOp, mUn, mCb, mNil, mCons, mTup, mIfS, mTB, mT, mRet, mNext, mgTup, mgCons, mgNil, mgT, mgName, setTg, setTgs, mIf, mAnd, mOr, mNot, mAndV, mOrV, mNotV, fB, fLt_int, fLe, fGt, fGe, fAdd_int, fSub_int, fMod_int, fDiv_int, fMul_int, fNeg_int, fIn_tup, fIn_lst, settle_same, fIx, look_tup, look_d, look_lst, look_fro, lookL_lst, atI_0, atI_1, atI_2, atI_3, fLen_tup, fLen_lst, miSeq, srcOf, mPar, mAug, mRetN, fTuple_lst, fTuple_tup, alloc_f, fEq_int, fMaxL_2, fMinL_2, fSorted_ints, fIsN_int, fIsN_non, fNe_int, mDrop, wipeE, mYes, My.isNon, miRng1, miRng2, fInt_int, truD, fShl_int, fPow_int, fAbs_int, fEq_bl, fIsi_tt, fIsi_it, fIsi_ii, fIsi_ib, fIsi_bt, fIsi_bi, fIsi_bb, fIsi_tb, fIsi_ti, last_concat, List.dropLast_concat, look_loc, lookL_loc, fLen_loc, ixN_0, ixN_1, ixN_2, ixN_3, fSetL_loc, fAppend_loc, fPop_loc, fExtend_loc, mgSub, mMt, alloc_t, mFrz, mSl, mRev, mNone, mSome, mLst, fNeg,
  b_some, b_none, m_some, Option.join_some, List.getElem?_cons_zero, List.getElem?_cons_succ, List.set_cons_zero, List.set_cons_succ, List.map_cons, List.map_nil, List.length_cons, List.length_nil, List.replicate, List.cons_append, List.nil_append, Nat.reduceAdd, Nat.reduceSub, if_true, if_false, reduceIte, reduceCtorEq, ite_bind, Bool.false_eq_true, decide_eq_true_eq, List.length_map, decide_true, decide_false, Bool.not_true, Bool.not_false])
local macro_rules | `(tactic| walk_at "nx") => `(tactic| (refine (mSeq_nx (by (walk_at "ev"; rfl))).trans ?_))
/-- a sequence of ints, a list's or a tuple's -/
def IsSeq (d : D) (ns : List Int) : Prop := d = .tup (ns.map .int) ∨ d = .lst (ns.map .int)
theorem mi_seq {d : D} {ns : List Int} (h : IsSeq d ns) {i : Nat} {en : En} {st : Sto} (he : en[i]? = some (some d)) : miSeq (mV i) en st = some (⟨ns.map D.int, none⟩, st) := by
  unfold miSeq
  rw [mV_at he]
  rcases h with rfl | rfl <;> rfl
theorem set_0 (st : Sto) (x y z : SO) : (st ++ [x, y]).set st.length z = st ++ [z, y] := by simp
theorem set_1 (st : Sto) (x y z : SO) : (st ++ [x, y]).set (st.length + 1) z = st ++ [x, z] := by
  rw [List.set_append_right _ _ (by omega)]
  simp
theorem get_0 (st : Sto) (x y : SO) : (st ++ [x, y])[st.length]? = some x := by simp
theorem get_1 (st : Sto) (x y : SO) : (st ++ [x, y])[st.length + 1]? = some y := by
  rw [List.getElem?_append_right (by omega)]
  simp
theorem ixN_ok {n : Nat} {i : Int} (h0 : 0 ≤ i) (h : i < n) : ixN n i = some i.toNat := by
  unfold ixN
  rw [if_pos h0, if_pos h]
theorem fMul_rep {d : D} {k : Int} (h0 : 0 ≤ k) (h : k < 1000000) {st : Sto} : fMul true (.lst [d]) (.int k) st = some (.loc st.length, st ++ [.lst (List.replicate k.toNat d)]) := by
  show ((lookL (.lst [d]) st).bind fun xs => if small k = true ∧ xs.length * k.toNat ≤ sizeLine then some (alloc true (List.replicate k.toNat xs).flatten st) else none) = _
  rw [lookL_lst, b_some, if_pos ⟨small_ok (by omega), szle (by simp only [List.length_cons, List.length_nil]; omega)⟩]
  show some (D.loc st.length, st ++ [SO.lst _]) = _
  rw [List.flatten_replicate_singleton]
theorem form_marks {df dr : D} {first turn : Int} {rests : List Int} (hr : IsSeq dr rests) (ht : 0 < turn) (ht9 : turn < 100000) (st : Sto) : ∃ (ms : List Bool) (x : Option D), ms.length = turn.toNat ∧
    (mSeq (mAsg (mOp (fMul true) (mLst false (mCons (mC (.bl false)) mNil)) (mV 2)) (mgName 4)) (ms__law_form_6)) [some df, some (.int first), some (.int turn), some dr, none, none, none, none, none, none, none, none, none] st = some (.nx [some df, some (.int first), some (.int turn), some dr, some (.loc st.length), x, none, none, none, none, none, none, none], st ++ [.lst (ms.map .bl)]) := by
  let E : Option D → Option D → En := fun m r => [some df, some (.int first), some (.int turn), some dr, m, r, none, none, none, none, none, none, none]
  have a0 : (mAsg (mOp (fMul true) (mLst false (mCons (mC (.bl false)) mNil)) (mV 2)) (mgName 4)) (E none none) st = some (.nx (E (some (.loc st.length)) none), st ++ [.lst ((List.replicate turn.toNat false).map .bl)]) := by
    dsimp only [E]; walk_at "ev"
    rw [if_pos (szle (by decide)), fMul_rep (by omega) (by omega)]
    walk_at "ev"
    rw [List.map_replicate]
  obtain ⟨o, s1, a1, k⟩ := for_inv (mi := miSeq (mV 3)) (T := .name 5) (b := mAsg (mC (.bl true)) (mgSub (mV 4) (mOp fMod (mCb fInt (mCons (mV 5) mNil)) (mV 2)) fSetL)) (en := E (some (.loc st.length)) none) (st := st ++ [.lst ((List.replicate turn.toNat false).map .bl)]) (mi_seq hr rfl)
    (fun _ en s => ∃ (ms : List Bool) (x : Option D), ms.length = turn.toNat ∧ en = E (some (.loc st.length)) x ∧ s = st ++ [.lst (ms.map .bl)]) (fun _ _ => False) (fun _ _ => False) (fun _ _ _ _ => ok_none) ⟨_, none, by simp, rfl, rfl⟩ (by
      rintro i d en s hd ⟨ms, x, hl, rfl, rfl⟩
      obtain ⟨n, hn, rfl⟩ := ints_get hd
      have h1 := Int.emod_nonneg n (by omega : turn ≠ 0)
      have h2 := Int.emod_lt_of_pos n ht
      refine ⟨E (some (.loc st.length)) (some (.int n)), .nx (E (some (.loc st.length)) (some (.int n))), st ++ [.lst ((ms.set (n % turn).toNat true).map .bl)], rfl, ?_, _, _, by rw [List.length_set, hl], rfl, rfl⟩
      dsimp only [E]; walk_at "ev"
      rw [cMod_ok ht]
      walk_at "ev"
      rw [top_get]
      dsimp only
      rw [ixN_ok h1 (by rw [List.length_map, hl]; omega)]
      walk_at "ev"
      rw [top_set, List.map_set])
  cases o with
  | nx e =>
    rcases k with ⟨ms, x, hl, rfl, rfl⟩ | k
    · exact ⟨ms, x, hl, (mSeq_nx a0).trans a1⟩
    · exact k.elim
  | _ => exact k.elim
end K05


namespace K05
open PySem PySem.Spec PyProof.Rows L2 My
local macro_rules | `(tactic| walk_at "ev") => `(tactic| simp only [mDef, mSeq, mAsg, mV_eq, mC, mOp, mUn, mCb, mNil, mCons, mTup, mIfS, mTB, mT, mRet, mNext, mgTup, mgCons, mgNil, mgT, mgName, setTg, setTgs, mIf, mAnd, mOr, mNot, mAndV, mOrV, mNotV, fB, fLt_int, fLe, fGt, fGe, fAdd_int, fSub_int, fMod_int, fDiv_int, fMul_int, fNeg_int, fIn_tup, fIn_lst, settle_same, fIx, look_tup, look_d, look_lst, look_fro, lookL_lst, atI_0, atI_1, atI_2, atI_3, fLen_tup, fLen_lst, miSeq, srcOf, mPar, mAug, mRetN, fTuple_lst, fTuple_tup, alloc_f, fEq_int, fMaxL_2, fMinL_2, fSorted_ints, fIsN_int, fIsN_non, fNe_int, mDrop, wipeE, mYes, My.isNon, miRng1, miRng2, fInt_int, truD, fShl_int, fPow_int, fAbs_int, fEq_bl, fIsi_tt, fIsi_it, fIsi_ii, fIsi_ib, fIsi_bt, fIsi_bi, fIsi_bb, fIsi_tb, fIsi_ti, last_concat, List.dropLast_concat, look_loc, lookL_loc, fLen_loc, ixN_0, ixN_1, ixN_2, ixN_3, fSetL_loc, fAppend_loc, fPop_loc, fExtend_loc, mgSub, mMt, alloc_t, mFrz, mSl, mRev, mNone, mSome, mLst, fNeg,
  b_some, b_none, m_some, Option.join_some, List.getElem?_cons_zero, List.getElem?_cons_succ, List.set_cons_zero, List.set_cons_succ, List.map_cons, List.map_nil, List.length_cons, List.length_nil, List.replicate, List.cons_append, List.nil_append, Nat.reduceAdd, Nat.reduceSub, if_true, if_false, reduceIte, reduceCtorEq, ite_bind, Bool.false_eq_true, decide_eq_true_eq, List.length_map, decide_true, decide_false, Bool.not_true, Bool.not_false])
local macro_rules | `(tactic| walk_at "nx") => `(tactic| (refine (mSeq_nx (by (walk_at "ev"; rfl))).trans ?_))
theorem lookK_1 {st : Sto} {x : SO} {kvs : List (Key × D)} : lookK (.loc (st.length + 1)) (st ++ [x, .dK kvs]) = some kvs := by
  unfold lookK
  dsimp only
  rw [get_1]
theorem lookR_1 {st : Sto} {x : SO} {kvs : List (Key × D)} : lookR (.loc (st.length + 1)) (st ++ [x, .dK kvs]) = some kvs := lookK_1
theorem fSetK_1 {st : Sto} {x : SO} {ks : List Int} {k : Int} (h : (mems ks).length < 1000000) : fSetK (.loc (st.length + 1)) (.int k) (.bl true) (st ++ [x, .dK (mems ks)]) = some (st ++ [x, .dK (mems (if k ∈ ks then ks else ks ++ [k]))]) := by
  unfold fSetK
  dsimp only
  rw [lookK_1, b_some]
  show (if (mems ks).length < sizeLine then some ((st ++ [x, SO.dK (mems ks)]).set (st.length + 1) (.dK (putD (mems ks) (.inl k) (.bl true)))) else none) = _
  rw [if_pos (szlt (by omega)), mems_put, set_1]
theorem form_mems {df dr : D} {first turn : Int} {few : List Int} (hf : IsSeq df few) (hb : ∀ m ∈ few, 0 ≤ m ∧ m < first) (hl : few.length < 100000) (st : Sto) (ms : SO) (x : Option D) : ∃ (ks : List Int) (y : Option D), ks.Nodup ∧ (∀ k ∈ ks, 0 ≤ k ∧ k < first) ∧ ks.length ≤ few.length ∧
    (mSeq (mAsg mDNew (mgName 6)) (ms__law_form_8)) [some df, some (.int first), some (.int turn), some dr, some (.loc st.length), x, none, none, none, none, none, none, none] (st ++ [ms]) = some (.nx [some df, some (.int first), some (.int turn), some dr, some (.loc st.length), x, some (.loc (st.length + 1)), y, none, none, none, none, none], st ++ [ms, .dK (mems ks)]) := by
  let E : Option D → Option D → En := fun m y => [some df, some (.int first), some (.int turn), some dr, some (.loc st.length), x, m, y, none, none, none, none, none]
  have a0 : (mAsg mDNew (mgName 6)) (E none none) (st ++ [ms]) = some (.nx (E (some (.loc (st.length + 1))) none), st ++ [ms, .dK (mems [])]) := by
    dsimp only [E]
    unfold mDNew
    walk_at "ev"
    simp [mems]
  obtain ⟨o, s1, a1, k⟩ := for_inv (mi := miSeq (mV 0)) (T := .name 7) (b := mAsg (mC (.bl true)) (mgSub (mV 6) (mV 7) fSetK)) (en := E (some (.loc (st.length + 1))) none) (st := st ++ [ms, .dK (mems [])]) (mi_seq hf rfl)
    (fun i en s => ∃ (ks : List Int) (y : Option D), ks.Nodup ∧ (∀ k ∈ ks, 0 ≤ k ∧ k < first) ∧ ks.length ≤ i ∧ i ≤ few.length ∧ en = E (some (.loc (st.length + 1))) y ∧ s = st ++ [ms, .dK (mems ks)]) (fun _ _ => False) (fun _ _ => False) (fun _ _ _ _ => ok_none) ⟨[], none, by simp, by simp, by simp, by omega, rfl, rfl⟩ (by
      rintro i d en s hd ⟨ks, y, h1, h2, h3, h4, rfl, rfl⟩
      obtain ⟨n, hn, rfl⟩ := ints_get hd
      have hm := hb n (List.mem_of_getElem? hn)
      have hlt := (List.getElem?_eq_some_iff.mp hn).1
      refine ⟨E (some (.loc (st.length + 1))) (some (.int n)), .nx (E (some (.loc (st.length + 1))) (some (.int n))), st ++ [ms, .dK (mems (if n ∈ ks then ks else ks ++ [n]))], rfl, ?_, _, _, ?_, ?_, ?_, by omega, rfl, rfl⟩
      · dsimp only [E]; walk_at "ev"
        rw [fSetK_1 (by unfold mems; rw [List.length_map]; omega)]
        walk_at "ev"
      · split
        · exact h1
        · rename_i hk
          exact List.nodup_append.mpr ⟨h1, by simp, fun a ha b hb' => by
            simp only [List.mem_cons, List.mem_nil_iff, or_false] at hb'
            subst hb'
            exact fun z => hk (z ▸ ha)⟩
      · intro k hk
        split at hk
        · exact h2 k hk
        · rcases List.mem_append.mp hk with z | z
          · exact h2 k z
          · simp only [List.mem_cons, List.mem_nil_iff, or_false] at z
            omega
      · split
        · omega
        · rw [List.length_append]
          exact Nat.succ_le_succ h3)
  cases o with
  | nx e =>
    rcases k with ⟨ks, y, h1, h2, h3, h4, rfl, rfl⟩ | k
    · exact ⟨ks, y, h1, h2, by simpa using h3, (mSeq_nx a0).trans a1⟩
    · exact k.elim
  | _ => exact k.elim
end K05


namespace K05
open PySem PySem.Spec PyProof.Rows L2 My
local macro_rules | `(tactic| walk_at "ev") => `(tactic| simp only [mDef, mSeq, mAsg, mV_eq, mC, mOp, mUn, mCb, mNil, mCons, mTup, mIfS, mTB, mT, mRet, mNext, mgTup, mgCons, mgNil, mgT, mgName, setTg, setTgs, mIf, mAnd, mOr, mNot, mAndV, mOrV, mNotV, fB, fLt_int, fLe, fGt, fGe, fAdd_int, fSub_int, fMod_int, fDiv_int, fMul_int, fNeg_int, fIn_tup, fIn_lst, settle_same, fIx, look_tup, look_d, look_lst, look_fro, lookL_lst, atI_0, atI_1, atI_2, atI_3, fLen_tup, fLen_lst, miSeq, srcOf, mPar, mAug, mRetN, fTuple_lst, fTuple_tup, alloc_f, fEq_int, fMaxL_2, fMinL_2, fSorted_ints, fIsN_int, fIsN_non, fNe_int, mDrop, wipeE, mYes, My.isNon, miRng1, miRng2, fInt_int, truD, fShl_int, fPow_int, fAbs_int, fEq_bl, fIsi_tt, fIsi_it, fIsi_ii, fIsi_ib, fIsi_bt, fIsi_bi, fIsi_bb, fIsi_tb, fIsi_ti, last_concat, List.dropLast_concat, look_loc, lookL_loc, fLen_loc, ixN_0, ixN_1, ixN_2, ixN_3, fSetL_loc, fAppend_loc, fPop_loc, fExtend_loc, mgSub, mMt, alloc_t, mFrz, mSl, mRev, mNone, mSome, mLst, fNeg,
  b_some, b_none, m_some, Option.join_some, List.getElem?_cons_zero, List.getElem?_cons_succ, List.set_cons_zero, List.set_cons_succ, List.map_cons, List.map_nil, List.length_cons, List.length_nil, List.replicate, List.cons_append, List.nil_append, Nat.reduceAdd, Nat.reduceSub, if_true, if_false, reduceIte, reduceCtorEq, ite_bind, Bool.false_eq_true, decide_eq_true_eq, List.length_map, decide_true, decide_false, Bool.not_true, Bool.not_false])
local macro_rules | `(tactic| walk_at "nx") => `(tactic| (refine (mSeq_nx (by (walk_at "ev"; rfl))).trans ?_))
theorem getLast_max {l : List Int} (h : l.Pairwise (· < ·)) (hne : l ≠ []) : ∀ m ∈ l, m ≤ l.getLast hne := by
  intro m hm
  have e := List.dropLast_concat_getLast hne
  have h : (l.dropLast ++ [l.getLast hne]).Pairwise (· < ·) := by rw [e]; exact h
  have hm : m ∈ l.dropLast ++ [l.getLast hne] := by rw [e]; exact hm
  rcases List.mem_append.mp hm with z | z
  · exact Int.le_of_lt ((List.pairwise_append.mp h).2.2 m z _ (by simp))
  · simp only [List.mem_cons, List.mem_nil_iff, or_false] at z
    omega
theorem four : 4 ≤ sizeLine := szle (by decide)
theorem look_0 {st : Sto} {ds : List D} {y : SO} : look (.loc st.length) (st ++ [.lst ds, y]) = some ds := by
  rw [look_loc, get_0]
theorem fIn_marks {st : Sto} {ms : List Bool} {y : SO} (neg : Bool) : fIn neg (.bl true) (.loc st.length) (st ++ [.lst (ms.map .bl), y]) = some (.bl (if neg then !decide (true ∈ ms) else decide (true ∈ ms)), st ++ [.lst (ms.map .bl), y]) := by
  unfold fIn
  rw [look_0, b_some, if_pos ⟨rfl, flat_bools ms⟩, inD_bools]
theorem fListK_1 {st : Sto} {x : SO} {ks : List Int} : fListK false [.loc (st.length + 1)] (st ++ [x, .dK (mems ks)]) = some (.lst (ks.map .int), st ++ [x, .dK (mems ks)]) := by
  unfold fListK
  dsimp only
  rw [lookR_1, m_some, mems_keys]
  rfl
/-- no rests -/
theorem form_none {df dr : D} {first turn : Int} {ks : List Int} {ms : List Bool} (hn : true ∉ ms) (h1 : ks.Nodup) (h2 : ∀ k ∈ ks, 0 ≤ k ∧ k < first) (h0 : 0 ≤ first) (hl : ks.length < 1000000) (st : Sto) (x y : Option D) :
    ∃ a : Rs, a.Wf ∧ a.turn = 1 ∧ a.first ≤ first ∧ (mIfS (mTB (mOp (fIn true) (mC (.bl true)) (mV 4))) (mSeq (ms__law_form_0) (ms__law_form_2)) mNext) [some df, some (.int first), some (.int turn), some dr, some (.loc st.length), x, some (.loc (st.length + 1)), y, none, none, none, none, none] (st ++ [.lst (ms.map .bl), .dK (mems ks)]) = some (.rt a.d, st ++ [.lst (ms.map .bl), .dK (mems ks)]) := by
  have c : mTB (mOp (fIn true) (mC (.bl true)) (mV 4)) [some df, some (.int first), some (.int turn), some dr, some (.loc st.length), x, some (.loc (st.length + 1)), y, none, none, none, none, none] (st ++ [.lst (ms.map .bl), .dK (mems ks)]) = some (true, st ++ [.lst (ms.map .bl), .dK (mems ks)]) := by
    walk_at "ev"
    rw [fIn_marks, decide_eq_false hn]
    walk_at "ev"
  have a0 : ms__law_form_0 [some df, some (.int first), some (.int turn), some dr, some (.loc st.length), x, some (.loc (st.length + 1)), y, none, none, none, none, none] (st ++ [.lst (ms.map .bl), .dK (mems ks)]) = some (.nx [some df, some (.int first), some (.int turn), some dr, some (.loc st.length), x, some (.loc (st.length + 1)), y, none, none, none, some (.lst ((sortI ks).map .int)), none], st ++ [.lst (ms.map .bl), .dK (mems ks)]) := by
    unfold ms__law_form_0
    walk_at "ev"
    rw [fListK_1]
    walk_at "ev"
  have hs := sort_lt h1
  by_cases he : sortI ks = []
  · refine ⟨⟨[], 0, 1, []⟩, ⟨.nil, by simp, by simp, by simp, .nil, by simp⟩, rfl, h0, (mIfS_t c).trans ((mSeq_nx a0).trans ?_)⟩
    unfold ms__law_form_2
    walk_at "ev"
    rw [he]
    walk_at "ev"
    rfl
  · have hm := getLast_max hs he
    have hb := h2 _ (mem_sort.mp (List.getLast_mem he))
    refine ⟨⟨sortI ks, (sortI ks).getLast he + 1, 1, []⟩, ⟨hs, fun m h => ⟨(h2 m (mem_sort.mp h)).1, by have := hm m h; show m < _ + 1; omega⟩, by show 0 ≤ _ + 1; omega, by simp, .nil, by simp⟩, rfl, by show _ + 1 ≤ _; omega, (mIfS_t c).trans ((mSeq_nx a0).trans ?_)⟩
    unfold ms__law_form_2
    walk_at "ev"
    have hne : ((sortI ks).map D.int).isEmpty = false := by
      cases hq : sortI ks with
      | nil => exact absurd hq he
      | cons _ _ => rfl
    rw [hne]
    walk_at "ev"
    rw [atI_map, atI_neg1 he]
    walk_at "ev"
    rw [if_pos szle0, if_pos four]
    rfl
end K05


namespace K05
open PySem PySem.Spec PyProof.Rows L2 My
local macro_rules | `(tactic| walk_at "ev") => `(tactic| simp only [mDef, mSeq, mAsg, mV_eq, mC, mOp, mUn, mCb, mNil, mCons, mTup, mIfS, mTB, mT, mRet, mNext, mgTup, mgCons, mgNil, mgT, mgName, setTg, setTgs, mIf, mAnd, mOr, mNot, mAndV, mOrV, mNotV, fB, fLt_int, fLe, fGt, fGe, fAdd_int, fSub_int, fMod_int, fDiv_int, fMul_int, fNeg_int, fIn_tup, fIn_lst, settle_same, fIx, look_tup, look_d, look_lst, look_fro, lookL_lst, atI_0, atI_1, atI_2, atI_3, fLen_tup, fLen_lst, miSeq, srcOf, mPar, mAug, mRetN, fTuple_lst, fTuple_tup, alloc_f, fEq_int, fMaxL_2, fMinL_2, fSorted_ints, fIsN_int, fIsN_non, fNe_int, mDrop, wipeE, mYes, My.isNon, miRng1, miRng2, fInt_int, truD, fShl_int, fPow_int, fAbs_int, fEq_bl, fIsi_tt, fIsi_it, fIsi_ii, fIsi_ib, fIsi_bt, fIsi_bi, fIsi_bb, fIsi_tb, fIsi_ti, last_concat, List.dropLast_concat, look_loc, lookL_loc, fLen_loc, ixN_0, ixN_1, ixN_2, ixN_3, fSetL_loc, fAppend_loc, fPop_loc, fExtend_loc, mgSub, mMt, alloc_t, mFrz, mSl, mRev, mNone, mSome, mLst, fNeg,
  b_some, b_none, m_some, Option.join_some, List.getElem?_cons_zero, List.getElem?_cons_succ, List.set_cons_zero, List.set_cons_succ, List.map_cons, List.map_nil, List.length_cons, List.length_nil, List.replicate, List.cons_append, List.nil_append, Nat.reduceAdd, Nat.reduceSub, if_true, if_false, reduceIte, reduceCtorEq, ite_bind, Bool.false_eq_true, decide_eq_true_eq, List.length_map, decide_true, decide_false, Bool.not_true, Bool.not_false])
local macro_rules | `(tactic| walk_at "nx") => `(tactic| (refine (mSeq_nx (by (walk_at "ev"; rfl))).trans ?_))
theorem cut_drop (ds : List D) {k : Int} (h : 0 ≤ k) : My.cutD ds (some k) none = ds.drop k.toNat := by
  unfold My.cutD HT.sIx
  dsimp only
  rw [if_neg (by omega), List.take_of_length_le (by rw [List.length_drop]; exact Nat.le_refl _)]
  by_cases hk : k.toNat ≤ ds.length
  · rw [Nat.min_eq_left hk]
  · rw [Nat.min_eq_right (by omega), List.drop_length, List.drop_eq_nil_of_le (by omega)]
theorem fAdd_lst {xs ys : List D} (h : xs.length + ys.length < 10000000) (st : Sto) : fAdd false (.lst xs) (.lst ys) st = some (.lst (xs ++ ys), st) := by
  show ((lookL (.lst xs) st).bind fun xs => (lookL (.lst ys) st).bind fun ys => if xs.length + ys.length ≤ sizeLine then some (My.alloc false (xs ++ ys) st) else none) = _
  rw [lookL_lst, b_some, lookL_lst, b_some, if_pos (szle h)]
  rfl
theorem fSl_drop {st : Sto} {ms : List Bool} {z : SO} {k : Int} (h : 0 ≤ k) : fSl false (.loc st.length) (some k) none (st ++ [.lst (ms.map .bl), z]) = some (.lst ((ms.drop k.toNat).map .bl), st ++ [.lst (ms.map .bl), z]) := by
  show ((look (.loc st.length) (st ++ [.lst (ms.map .bl), z])).map fun ds => My.alloc false (My.cutD ds (some k) none) (st ++ [.lst (ms.map .bl), z])) = _
  rw [look_0, m_some, cut_drop _ h, List.map_drop]
  rfl
theorem fSl_take {st : Sto} {ms : List Bool} {z : SO} {k : Int} (h : 0 ≤ k) : fSl false (.loc st.length) none (some k) (st ++ [.lst (ms.map .bl), z]) = some (.lst ((ms.take k.toNat).map .bl), st ++ [.lst (ms.map .bl), z]) := by
  show ((look (.loc st.length) (st ++ [.lst (ms.map .bl), z])).map fun ds => My.alloc false (My.cutD ds none (some k)) (st ++ [.lst (ms.map .bl), z])) = _
  rw [look_0, m_some, cutD_take _ _ h, List.map_take]
  rfl
theorem form_least {df dr : D} {first turn : Int} {ms : List Bool} (ht : 0 < turn) (ht9 : turn < 100000) (hl : ms.length = turn.toNat) (st : Sto) (x y : Option D) (z : SO) (m : D) : ∃ l : Int, 1 ≤ l ∧ l ≤ turn ∧ ms__law_form_10 [some df, some (.int first), some (.int turn), some dr, some (.loc st.length), x, some m, y, none, none, none, none, none] (st ++ [.lst (ms.map .bl), z]) = some (.nx [some df, some (.int first), some (.int turn), some dr, some (.loc st.length), x, some m, y, some (.int l), none, none, none, none], st ++ [.lst (ms.map .bl), z]) := by
  let p : Int → Bool := fun d => decide (turn % d = 0) && decide (ms = ms.drop d.toNat ++ ms.take d.toNat)
  have lc : mLc false (miRng2 (mCons (mC (.int 1)) (mCons (mOp (fAdd false) (mV 2) (mC (.int 1))) mNil))) (.name 12) (mAnd (mTB (mOp fEq (mOp fMod (mCb fInt (mCons (mV 2) mNil)) (mV 12)) (mC (.int 0)))) (mTB (mOp fEq (mV 4) (mOp (fAdd false) (mSl false (mV 4) (mSome (mV 12)) mNone) (mSl false (mV 4) mNone (mSome (mV 12))))))) (mV 12) [12] [some df, some (.int first), some (.int turn), some dr, some (.loc st.length), x, some m, y, none, none, none, none, none] (st ++ [.lst (ms.map .bl), z]) = some (.lst (((rngI 1 turn.toNat).filter p).map .int), st ++ [.lst (ms.map .bl), z]) := by
    refine lc_ints (ns := rngI 1 turn.toNat) (st1 := st ++ [.lst (ms.map .bl), z]) ?_ p .int (by rw [length_rngI]; exact szlt (by omega)) fun d hd => ?_
    · walk_at "ev"
      rw [if_pos ⟨small_ok (by omega), small_ok (by omega)⟩, show (turn + 1 - 1).toNat = turn.toNat by omega, rngD_eq]
    · have hd := mem_rngI.mp hd
      refine ⟨[some df, some (.int first), some (.int turn), some dr, some (.loc st.length), x, some m, y, none, none, none, none, some (.int d)], rfl, ?_, fun _ => by walk_at "ev"⟩
      walk_at "ev"
      rw [cMod_ok (by omega)]
      walk_at "ev"
      by_cases hz : turn % d = 0
      · rw [if_pos hz, fSl_drop (by omega)]
        walk_at "ev"
        rw [fSl_take (by omega)]
        walk_at "ev"
        rw [fAdd_lst (by rw [List.length_map, List.length_map, List.length_drop, List.length_take]; omega)]
        walk_at "ev"
        rw [← List.map_append, fEq_bools (get_0 _ _ _)]
        walk_at "ev"
        dsimp only [p]
        rw [decide_eq_true hz]
        rfl
      · rw [if_neg hz]
        dsimp only [p]
        rw [decide_eq_false hz]
        rfl
  have hp : p turn = true := by
    dsimp only [p]
    rw [Int.emod_self, ← hl, List.drop_length, List.take_length]
    simp
  have hmem : turn ∈ (rngI 1 turn.toNat).filter p := List.mem_filter.mpr ⟨mem_rngI.mpr ⟨by omega, by omega⟩, hp⟩
  cases hq : (rngI 1 turn.toNat).filter p with
  | nil => rw [hq] at hmem; cases hmem
  | cons l ls =>
    have h1 : l ∈ rngI 1 turn.toNat := (List.mem_filter.mp (by rw [hq]; simp)).1
    have h2 := mem_rngI.mp h1
    rw [hq] at lc
    refine ⟨l, h2.1, by omega, ?_⟩
    have key : ∀ q : ME, q [some df, some (.int first), some (.int turn), some dr, some (.loc st.length), x, some m, y, none, none, none, none, none] (st ++ [.lst (ms.map .bl), z]) = some (.lst ((l :: ls).map .int), st ++ [.lst (ms.map .bl), z]) → (mAsg (mOp fIx q (mC (.int 0))) (mgName 8)) [some df, some (.int first), some (.int turn), some dr, some (.loc st.length), x, some m, y, none, none, none, none, none] (st ++ [.lst (ms.map .bl), z]) = some (.nx [some df, some (.int first), some (.int turn), some dr, some (.loc st.length), x, some m, y, some (.int l), none, none, none, none], st ++ [.lst (ms.map .bl), z]) := by
      intro q hq
      walk_at "ev"
      rw [hq]
      walk_at "ev"
    exact key _ lc
end K05


namespace K05
open PySem PySem.Spec PyProof.Rows L2 My
local macro_rules | `(tactic| walk_at "ev") => `(tactic| simp only [mDef, mSeq, mAsg, mV_eq, mC, mOp, mUn, mCb, mNil, mCons, mTup, mIfS, mTB, mT, mRet, mNext, mgTup, mgCons, mgNil, mgT, mgName, setTg, setTgs, mIf, mAnd, mOr, mNot, mAndV, mOrV, mNotV, fB, fLt_int, fLe, fGt, fGe, fAdd_int, fSub_int, fMod_int, fDiv_int, fMul_int, fNeg_int, fIn_tup, fIn_lst, settle_same, fIx, look_tup, look_d, look_lst, look_fro, lookL_lst, atI_0, atI_1, atI_2, atI_3, fLen_tup, fLen_lst, miSeq, srcOf, mPar, mAug, mRetN, fTuple_lst, fTuple_tup, alloc_f, fEq_int, fMaxL_2, fMinL_2, fSorted_ints, fIsN_int, fIsN_non, fNe_int, mDrop, wipeE, mYes, My.isNon, miRng1, miRng2, fInt_int, truD, fShl_int, fPow_int, fAbs_int, fEq_bl, fIsi_tt, fIsi_it, fIsi_ii, fIsi_ib, fIsi_bt, fIsi_bi, fIsi_bb, fIsi_tb, fIsi_ti, last_concat, List.dropLast_concat, look_loc, lookL_loc, fLen_loc, ixN_0, ixN_1, ixN_2, ixN_3, fSetL_loc, fAppend_loc, fPop_loc, fExtend_loc, mgSub, mMt, alloc_t, mFrz, mSl, mRev, mNone, mSome, mLst, fNeg,
  b_some, b_none, m_some, Option.join_some, List.getElem?_cons_zero, List.getElem?_cons_succ, List.set_cons_zero, List.set_cons_succ, List.map_cons, List.map_nil, List.length_cons, List.length_nil, List.replicate, List.cons_append, List.nil_append, Nat.reduceAdd, Nat.reduceSub, if_true, if_false, reduceIte, reduceCtorEq, ite_bind, Bool.false_eq_true, decide_eq_true_eq, List.length_map, decide_true, decide_false, Bool.not_true, Bool.not_false])
local macro_rules | `(tactic| walk_at "nx") => `(tactic| (refine (mSeq_nx (by (walk_at "ev"; rfl))).trans ?_))
theorem fMaxL_ints (ns : List Int) (m : Int) (h : ns.max? = some m) (st : Sto) : fMaxL [.lst (ns.map .int)] st = some (.int m, st) := by
  show ((lookL (.lst (ns.map .int)) st).bind fun es => (intsOf es).bind fun ns => ns.max?.map fun m => (D.int m, st)) = _
  rw [lookL_lst, b_some, intsOf_map, b_some, h]
  rfl
theorem form_begin {df dr : D} {first turn : Int} {few : List Int} (hf : IsSeq df few) (hb : ∀ m ∈ few, 0 ≤ m ∧ m < first) (hl : few.length < 100000) (h0 : 0 ≤ first) (h9 : first < 10 ^ 9) (s : Sto) (m x mm y l : Option D) : (mSeq (ms__law_form_12) (ms__law_form_14)) [some df, some (.int first), some (.int turn), some dr, m, x, mm, y, l, none, none, none, none] s = some (.nx [some df, some (.int first), some (.int turn), some dr, m, x, mm, y, l, some (.int first), none, none, none], s) := by
  have lc : mLc false (miSeq (mV 0)) (.name 7) mYes (mOp (fAdd false) (mV 7) (mC (.int 1))) [7] [some df, some (.int first), some (.int turn), some dr, m, x, mm, y, l, none, none, none, none] s = some (.lst ((few.map (· + 1)).map .int), s) := by
    rw [lc_ints (ns := few) (st1 := s) (mi_seq hf rfl) (fun _ => true) (fun i => .int (i + 1)) (szlt (by omega)) fun i _ => ⟨[some df, some (.int first), some (.int turn), some dr, m, x, mm, some (.int i), l, none, none, none, none], rfl, rfl, fun _ => by walk_at "ev"⟩]
    rw [List.filter_eq_self.mpr fun _ _ => rfl, List.map_map]
    rfl
  have hmax : (first :: few.map (· + 1)).max? = some first := List.max?_eq_some_iff.mpr ⟨by simp, fun b hb' => by
    rcases List.mem_cons.mp hb' with z | z
    · omega
    · obtain ⟨c, hc, rfl⟩ := List.mem_map.mp z
      have := hb c hc
      omega⟩
  have key : ∀ q : ME, q [some df, some (.int first), some (.int turn), some dr, m, x, mm, y, l, none, none, none, none] s = some (.lst ((few.map (· + 1)).map .int), s) → (mAsg (mCb fMaxL (mCons (mOp (fAdd false) (mLst false (mCons (mV 1) mNil)) q) mNil)) (mgName 9)) [some df, some (.int first), some (.int turn), some dr, m, x, mm, y, l, none, none, none, none] s = some (.nx [some df, some (.int first), some (.int turn), some dr, m, x, mm, y, l, some (.int first), none, none, none], s) := by
    intro q hq
    walk_at "ev"
    rw [if_pos (szle (by decide))]
    rw [hq]
    walk_at "ev"
    rw [fAdd_lst (by rw [List.length_map, List.length_map]; simp only [List.length_cons, List.length_nil]; omega)]
    walk_at "ev"
    rw [show (D.int first :: (few.map (· + 1)).map D.int) = (first :: few.map (· + 1)).map D.int from rfl, fMaxL_ints _ _ hmax]
    walk_at "ev"
  refine (mSeq_nx (key _ lc)).trans ?_
  unfold ms__law_form_14 mFor
  have e : (miRng2 (mCons (mV 1) (mCons (mV 9) mNil))) [some df, some (.int first), some (.int turn), some dr, m, x, mm, y, l, some (.int first), none, none, none] s = some (⟨[], none⟩, s) := by
    walk_at "ev"
    rw [if_pos ⟨small_ok (by omega), small_ok (by omega)⟩, show (first - first).toNat = 0 by omega]
    rfl
  rw [e, b_some]
  unfold forL
  rw [if_pos ok_none]
theorem form_while {df dr : D} {first turn : Int} {ks : List Int} {ms : List Bool} (ht : 0 < turn) (hl : ms.length = turn.toNat) (h0 : 0 ≤ first) (st : Sto) (x y l : Option D) : ∃ b : Int, 0 ≤ b ∧ b ≤ first ∧ ms__law_form_16 [some df, some (.int first), some (.int turn), some dr, some (.loc st.length), x, some (.loc (st.length + 1)), y, l, some (.int first), none, none, none] (st ++ [.lst (ms.map .bl), .dK (mems ks)]) = some (.nx [some df, some (.int first), some (.int turn), some dr, some (.loc st.length), x, some (.loc (st.length + 1)), y, l, some (.int b), none, none, none], st ++ [.lst (ms.map .bl), .dK (mems ks)]) := by
  let E : Int → En := fun b => [some df, some (.int first), some (.int turn), some dr, some (.loc st.length), x, some (.loc (st.length + 1)), y, l, some (.int b), none, none, none]
  let S : Sto := st ++ [.lst (ms.map .bl), .dK (mems ks)]
  obtain ⟨o, s1, a1, k⟩ := wh_inv (c := mAnd (mTB (mOp fGt (mV 9) (mC (.int 0)))) (mTB (mOp fEq (mOp (fInK false) (mOp fSub (mV 9) (mC (.int 1))) (mV 6)) (mOp fIx (mV 4) (mOp fMod (mCb fInt (mCons (mOp fSub (mV 9) (mC (.int 1))) mNil)) (mV 2)))))) (b := mAsg (mOp fSub (mV 9) (mC (.int 1))) (mgName 9)) (en := E first) (st := S)
    (fun en s => s = S ∧ ∃ b, en = E b ∧ 0 ≤ b ∧ b ≤ first)
    (fun en _ => match en with | [_, _, _, _, _, _, _, _, _, some (.int b), _, _, _] => b.toNat | _ => 0)
    (fun en s => s = S ∧ ∃ b, en = E b ∧ 0 ≤ b ∧ b ≤ first) (fun _ _ => False) ⟨rfl, first, rfl, h0, Int.le_refl _⟩ (by
      rintro en s ⟨rfl, b, rfl, b1, b2⟩
      have h1 := Int.emod_nonneg (b - 1) (by omega : turn ≠ 0)
      have h2 := Int.emod_lt_of_pos (b - 1) ht
      have hg : atI (ms.map D.bl) ((b - 1) % turn) = some (.bl (ms[((b - 1) % turn).toNat]'(by omega))) := by
        rw [atI_map, atI_nat h1 (by omega)]
        rfl
      refine ⟨decide (0 < b) && decide (decide (b - 1 ∈ ks) = ms[((b - 1) % turn).toNat]'(by omega)), S, ?_, fun _ => ⟨rfl, b, rfl, b1, b2⟩, fun h => ?_⟩
      · dsimp only [E, S]
        walk_at "ev"
        by_cases hz : 0 < b
        · rw [if_pos hz, decide_eq_true hz]
          have hk : fInK false (.int (b - 1)) (.loc (st.length + 1)) (st ++ [.lst (ms.map .bl), .dK (mems ks)]) = some (.bl (decide (b - 1 ∈ ks)), st ++ [.lst (ms.map .bl), .dK (mems ks)]) := by
            unfold fInK
            rw [lookR_1, b_some]
            show some (D.bl (valD (mems ks) (.inl (b - 1))).isSome, _) = _
            rw [mems_val]
          rw [hk, cMod_ok ht]
          walk_at "ev"
          rw [get_0]
          dsimp only
          walk_at "ev"
          rw [hg]
          walk_at "ev"
          simp
        · rw [if_neg hz, decide_eq_false hz]
          rfl
      · have hz := of_decide_eq_true ((Bool.and_eq_true _ _).mp h).1
        refine ⟨.nx (E (b - 1)), S, ?_, ⟨⟨rfl, b - 1, rfl, by omega, by omega⟩, ?_⟩⟩
        · dsimp only [E]; walk_at "ev"
        · dsimp only [E]
          omega)
  cases o with
  | nx e =>
    obtain ⟨rfl, b, rfl, b1, b2⟩ := k
    exact ⟨b, b1, b2, a1⟩
  | _ => exact k.elim
end K05


namespace K05
open PySem PySem.Spec PyProof.Rows L2 My
local macro_rules | `(tactic| walk_at "ev") => `(tactic| simp only [mDef, mSeq, mAsg, mV_eq, mC, mOp, mUn, mCb, mNil, mCons, mTup, mIfS, mTB, mT, mRet, mNext, mgTup, mgCons, mgNil, mgT, mgName, setTg, setTgs, mIf, mAnd, mOr, mNot, mAndV, mOrV, mNotV, fB, fLt_int, fLe, fGt, fGe, fAdd_int, fSub_int, fMod_int, fDiv_int, fMul_int, fNeg_int, fIn_tup, fIn_lst, settle_same, fIx, look_tup, look_d, look_lst, look_fro, lookL_lst, atI_0, atI_1, atI_2, atI_3, fLen_tup, fLen_lst, miSeq, srcOf, mPar, mAug, mRetN, fTuple_lst, fTuple_tup, alloc_f, fEq_int, fMaxL_2, fMinL_2, fSorted_ints, fIsN_int, fIsN_non, fNe_int, mDrop, wipeE, mYes, My.isNon, miRng1, miRng2, fInt_int, truD, fShl_int, fPow_int, fAbs_int, fEq_bl, fIsi_tt, fIsi_it, fIsi_ii, fIsi_ib, fIsi_bt, fIsi_bi, fIsi_bb, fIsi_tb, fIsi_ti, last_concat, List.dropLast_concat, look_loc, lookL_loc, fLen_loc, ixN_0, ixN_1, ixN_2, ixN_3, fSetL_loc, fAppend_loc, fPop_loc, fExtend_loc, mgSub, mMt, alloc_t, mFrz, mSl, mRev, mNone, mSome, mLst, fNeg,
  b_some, b_none, m_some, Option.join_some, List.getElem?_cons_zero, List.getElem?_cons_succ, List.set_cons_zero, List.set_cons_succ, List.map_cons, List.map_nil, List.length_cons, List.length_nil, List.replicate, List.cons_append, List.nil_append, Nat.reduceAdd, Nat.reduceSub, if_true, if_false, reduceIte, reduceCtorEq, ite_bind, Bool.false_eq_true, decide_eq_true_eq, List.length_map, decide_true, decide_false, Bool.not_true, Bool.not_false])
local macro_rules | `(tactic| walk_at "nx") => `(tactic| (refine (mSeq_nx (by (walk_at "ev"; rfl))).trans ?_))
theorem nofs_ints : ∀ ns : List Int, nofs (ns.map D.int) = true
  | [] => by rw [List.map_nil, nofs]
  | n :: ns => by rw [List.map_cons, nofs, nofs_ints ns, nof]; all_goals first | rfl | simp
theorem nof_ints (ns : List Int) : nof (.lst (ns.map D.int)) = true := by rw [nof, nofs_ints]
theorem nofs_bools : ∀ ns : List Bool, nofs (ns.map D.bl) = true
  | [] => by rw [List.map_nil, nofs]
  | n :: ns => by rw [List.map_cons, nofs, nofs_bools ns, nof]; all_goals first | rfl | simp
theorem form_last {df dr : D} {first turn b l : Int} {ks : List Int} {ms : List Bool} (h1 : ks.Nodup) (h2 : ∀ k ∈ ks, 0 ≤ k ∧ k < first) (hkl : ks.length < 1000000) (hb : 0 ≤ b) (hl1 : 1 ≤ l) (hl2 : l ≤ turn) (hl : ms.length = turn.toNat) (ht9 : turn < 100000) (st : Sto) (hst : st.all nofO = true) (x y : Option D) : ∃ a : Rs, a.Wf ∧ a.turn = l ∧ a.first = b ∧ ms__law_form_18 [some df, some (.int first), some (.int turn), some dr, some (.loc st.length), x, some (.loc (st.length + 1)), y, some (.int l), some (.int b), none, none, none] (st ++ [.lst (ms.map .bl), .dK (mems ks)]) = some (.rt a.d, st ++ [.lst (ms.map .bl), .dK (mems ks)]) := by
  let S : Sto := st ++ [.lst (ms.map .bl), .dK (mems ks)]
  let E : En := [some df, some (.int first), some (.int turn), some dr, some (.loc st.length), x, some (.loc (st.length + 1)), y, some (.int l), some (.int b), none, none, none]
  let fs := sortI (ks.filter fun k => decide (k < b))
  let rs := (rngI 0 l.toNat).filter fun r => ms.getD r.toNat false
  have e1 : mLkE 6 (mLc false (miKeys (mV 6)) (.name 7) (mTB (mOp fLt (mV 7) (mV 9))) (mV 7) [7]) E S = some (.lst ((ks.filter fun k => decide (k < b)).map .int), S) := by
    let E2 : En := [some df, some (.int first), some (.int turn), some dr, some (.loc st.length), x, some (.fdk (st.length + 1) ((mems ks).map (·.1)) ((mems ks).map (·.2))), y, some (.int l), some (.int b), none, none, none]
    have lc : mLc false (miKeys (mV 6)) (.name 7) (mTB (mOp fLt (mV 7) (mV 9))) (mV 7) [7] E2 (st ++ [.lst (ms.map .bl), .dead]) = some (.lst ((ks.filter fun k => decide (k < b)).map .int), st ++ [.lst (ms.map .bl), .dead]) := by
      refine lc_ints (ns := ks) (st1 := st ++ [.lst (ms.map .bl), .dead]) ?_ (fun k => decide (k < b)) .int (szlt (by omega)) fun k _ => ?_
      rotate_left
      · refine ⟨[some df, some (.int first), some (.int turn), some dr, some (.loc st.length), x, some (.fdk (st.length + 1) ((mems ks).map (·.1)) ((mems ks).map (·.2))), some (.int k), some (.int l), some (.int b), none, none, none], rfl, ?_, fun _ => ?_⟩
        · walk_at "ev"
        · walk_at "ev"
      show some ((⟨((mems ks).map (·.1)).map keyD, none⟩ : Src), _) = _
      rw [List.map_map]
      rw [show (mems ks).map (keyD ∘ fun kv => kv.1) = ks.map D.int from mems_keys ks]
    open Classical in
    show (match (st ++ [SO.lst (ms.map D.bl), SO.dK (mems ks)])[st.length + 1]? with
      | some (SO.dK kvs) => (mLc false (miKeys (mV 6)) (.name 7) (mTB (mOp fLt (mV 7) (mV 9))) (mV 7) [7] (E.set 6 (some (D.fdk (st.length + 1) (List.map (fun (kv : Key × D) => kv.1) kvs) (List.map (fun (kv : Key × D) => kv.2) kvs)))) (S.set (st.length + 1) SO.dead)).bind fun (p : D × Sto) => if nof p.1 = true ∧ p.2.all nofO = true ∧ p.2[st.length + 1]? = some SO.dead then some (p.1, p.2.set (st.length + 1) (SO.dK kvs)) else none
      | _ => none) = _
    rw [get_1]
    dsimp only
    dsimp only [S]
    rw [set_1]
    rw [show E.set 6 (some (.fdk (st.length + 1) ((mems ks).map (·.1)) ((mems ks).map (·.2)))) = E2 from rfl, lc, b_some]
    rw [if_pos ⟨nof_ints _, by rw [List.all_append, hst]; show (true && (nofs (ms.map D.bl) && _)) = true; rw [nofs_bools]; rfl, get_1 _ _ _⟩, set_1]
  have e2 : mLc false (miRng1 (mCons (mV 8) mNil)) (.name 5) (mT (mOp fIx (mV 4) (mV 5))) (mV 5) [5] E S = some (.lst (rs.map .int), S) := by
    refine lc_ints (ns := rngI 0 l.toNat) (st1 := S) ?_ (fun r => ms.getD r.toNat false) .int (by rw [length_rngI]; exact szlt (by omega)) fun r hr => ?_
    · dsimp only [E]; walk_at "ev"
      rw [if_pos (small_ok (by omega)), rngD_eq]
    · have hr := mem_rngI.mp hr
      refine ⟨[some df, some (.int first), some (.int turn), some dr, some (.loc st.length), some (.int r), some (.loc (st.length + 1)), y, some (.int l), some (.int b), none, none, none], rfl, ?_, fun _ => by walk_at "ev"⟩
      dsimp only [S]
      walk_at "ev"
      rw [get_0]
      dsimp only
      walk_at "ev"
      rw [atI_map, atI_nat hr.1 (by omega)]
      walk_at "ev"
      rw [List.getD_eq_getElem?_getD, List.getElem?_eq_getElem (by omega)]
      rfl
  have w : (Rs.mk fs b l rs).Wf := ⟨sort_lt (h1.filter _), fun m hm => by
    have hm := List.mem_filter.mp (mem_sort.mp hm)
    exact ⟨(h2 m hm.1).1, of_decide_eq_true hm.2⟩, hb, by show 0 < l; omega, (pairwise_rng 0 l.toNat).filter _, fun r hr => by
    have := mem_rngI.mp (List.mem_filter.mp hr).1
    show 0 ≤ r ∧ r < l
    omega⟩
  refine ⟨_, w, rfl, rfl, ?_⟩
  have key : ∀ q1 q2 : ME, q1 E S = some (.lst ((ks.filter fun k => decide (k < b)).map .int), S) → q2 E S = some (.lst (rs.map .int), S) → (mRet (mTup (mCons (mCb fTuple (mCons (mCb (fSorted false) (mCons q1 mNil)) mNil)) (mCons (mV 9) (mCons (mV 8) (mCons (mCb fTuple (mCons q2 mNil)) mNil)))))) E S = some (.rt (Rs.mk fs b l rs).d, S) := by
    intro q1 q2 hq1 hq2
    dsimp only [E] at hq1 hq2 ⊢
    walk_at "ev"
    rw [hq1]
    walk_at "ev"
    rw [hq2]
    walk_at "ev"
    rw [if_pos four]
    rfl
  exact key _ _ e1 e2
end K05


namespace K05
open PySem PySem.Spec PyProof.Rows L2 My
local macro_rules | `(tactic| walk_at "ev") => `(tactic| simp only [mDef, mSeq, mAsg, mV_eq, mC, mOp, mUn, mCb, mNil, mCons, mTup, mIfS, mTB, mT, mRet, mNext, mgTup, mgCons, mgNil, mgT, mgName, setTg, setTgs, mIf, mAnd, mOr, mNot, mAndV, mOrV, mNotV, fB, fLt_int, fLe, fGt, fGe, fAdd_int, fSub_int, fMod_int, fDiv_int, fMul_int, fNeg_int, fIn_tup, fIn_lst, settle_same, fIx, look_tup, look_d, look_lst, look_fro, lookL_lst, atI_0, atI_1, atI_2, atI_3, fLen_tup, fLen_lst, miSeq, srcOf, mPar, mAug, mRetN, fTuple_lst, fTuple_tup, alloc_f, fEq_int, fMaxL_2, fMinL_2, fSorted_ints, fIsN_int, fIsN_non, fNe_int, mDrop, wipeE, mYes, My.isNon, miRng1, miRng2, fInt_int, truD, fShl_int, fPow_int, fAbs_int, fEq_bl, fIsi_tt, fIsi_it, fIsi_ii, fIsi_ib, fIsi_bt, fIsi_bi, fIsi_bb, fIsi_tb, fIsi_ti, last_concat, List.dropLast_concat, look_loc, lookL_loc, fLen_loc, ixN_0, ixN_1, ixN_2, ixN_3, fSetL_loc, fAppend_loc, fPop_loc, fExtend_loc, mgSub, mMt, alloc_t, mFrz, mSl, mRev, mNone, mSome, mLst, fNeg,
  b_some, b_none, m_some, Option.join_some, List.getElem?_cons_zero, List.getElem?_cons_succ, List.set_cons_zero, List.set_cons_succ, List.map_cons, List.map_nil, List.length_cons, List.length_nil, List.replicate, List.cons_append, List.nil_append, Nat.reduceAdd, Nat.reduceSub, if_true, if_false, reduceIte, reduceCtorEq, ite_bind, Bool.false_eq_true, decide_eq_true_eq, List.length_map, decide_true, decide_false, Bool.not_true, Bool.not_false])
local macro_rules | `(tactic| walk_at "nx") => `(tactic| (refine (mSeq_nx (by (walk_at "ev"; rfl))).trans ?_))
theorem clos_ints (n : Nat) : ∀ ns : List Int, clos n (ns.map D.int) = true
  | [] => by rw [List.map_nil, clos]
  | k :: ns => by rw [List.map_cons, clos, clos_ints n ns, clo]; all_goals first | rfl | simp
theorem clo_d (a : Rs) (n : Nat) : clo n a.d = true := by
  unfold Rs.d
  simp only [clo, clos, clos_ints, Bool.and_self]
theorem mSeq_two {a b c : MS} {en en1 : En} {st st1 : Sto} (h : mSeq a b en st = some (.nx en1, st1)) : mSeq a (mSeq b c) en st = c en1 st1 := by
  unfold mSeq at h ⊢
  cases ha : a en st with
  | none => rw [ha] at h; cases h
  | some p =>
    obtain ⟨o, s⟩ := p
    rw [ha] at h
    cases o with
    | nx e =>
      have h : b e s = some (.nx en1, st1) := h
      show ((b e s).bind _) = _
      rw [h]
      rfl
    | _ => cases h
theorem form_eq {df dr : D} {first turn : Int} {few rests : List Int} (hf : IsSeq df few) (hr : IsSeq dr rests) (hb : ∀ m ∈ few, 0 ≤ m ∧ m < first) (hl : few.length < 100000) (h0 : 0 ≤ first) (h9 : first < 10 ^ 9) (ht : 0 < turn) (ht9 : turn < 100000) (st : Sto) (hst : st.all nofO = true) :
    ∃ a : Rs, a.Wf ∧ a.turn ≤ turn ∧ a.first ≤ first ∧ m__law_form [df, .int first, .int turn, dr] st = some (a.d, st) := by
  obtain ⟨ms, x, hms, a1⟩ := form_marks (df := df) (first := first) hr ht ht9 st
  obtain ⟨ks, y, k1, k2, k3, a2⟩ := form_mems (turn := turn) (dr := dr) hf hb hl st (.lst (ms.map .bl)) x
  have fin : ∀ a : Rs, (mSeq (mIfS (mTB (mOp (fIn true) (mC (.bl true)) (mV 4))) (mSeq (ms__law_form_0) (ms__law_form_2)) mNext) (mSeq (ms__law_form_10) (mSeq (ms__law_form_12) (mSeq (ms__law_form_14) (mSeq (ms__law_form_16) (ms__law_form_18)))))) [some df, some (.int first), some (.int turn), some dr, some (.loc st.length), x, some (.loc (st.length + 1)), y, none, none, none, none, none] (st ++ [.lst (ms.map .bl), .dK (mems ks)]) = some (.rt a.d, st ++ [.lst (ms.map .bl), .dK (mems ks)]) → m__law_form [df, .int first, .int turn, dr] st = some (a.d, st) := by
    intro a h
    unfold m__law_form mDef
    rw [if_pos (show [df, D.int first, .int turn, dr].length = 4 from rfl)]
    show ((mSeq _ (mSeq _ _) [some df, some (.int first), some (.int turn), some dr, none, none, none, none, none, none, none, none, none] st).bind _) = _
    rw [(mSeq_two a1).trans ((mSeq_two a2).trans h)]
    show some (My.settle st a.d (st ++ [.lst (ms.map .bl), .dK (mems ks)])) = _
    unfold My.settle
    rw [if_neg (by simp), if_pos ⟨clo_d a _, fun i hi => .inl (List.getElem?_append_left hi)⟩]
    simp
  by_cases hn : true ∈ ms
  · obtain ⟨l, l1, l2, a3⟩ := form_least (df := df) (dr := dr) (first := first) ht ht9 hms st x y (.dK (mems ks)) (.loc (st.length + 1))
    have a4 := form_begin (turn := turn) (dr := dr) hf hb hl h0 h9 (st ++ [.lst (ms.map .bl), .dK (mems ks)]) (some (.loc st.length)) x (some (.loc (st.length + 1))) y (some (.int l))
    obtain ⟨b, b1, b2, a5⟩ := form_while (df := df) (dr := dr) (ks := ks) ht hms h0 st x y (some (.int l))
    obtain ⟨a, w, w1, w2, a6⟩ := form_last (df := df) (dr := dr) (first := first) (b := b) k1 k2 (by omega) b1 l1 l2 hms ht9 st hst x y
    refine ⟨a, w, by omega, by omega, fin a ?_⟩
    have c : (mIfS (mTB (mOp (fIn true) (mC (.bl true)) (mV 4))) (mSeq (ms__law_form_0) (ms__law_form_2)) mNext) [some df, some (.int first), some (.int turn), some dr, some (.loc st.length), x, some (.loc (st.length + 1)), y, none, none, none, none, none] (st ++ [.lst (ms.map .bl), .dK (mems ks)]) = some (.nx [some df, some (.int first), some (.int turn), some dr, some (.loc st.length), x, some (.loc (st.length + 1)), y, none, none, none, none, none], st ++ [.lst (ms.map .bl), .dK (mems ks)]) := by
      refine (mIfS_f (st1 := st ++ [.lst (ms.map .bl), .dK (mems ks)]) ?_).trans rfl
      walk_at "ev"
      rw [fIn_marks, decide_eq_true hn]
      walk_at "ev"
    exact (mSeq_nx c).trans ((mSeq_nx a3).trans ((mSeq_two a4).trans ((mSeq_nx a5).trans a6)))
  · obtain ⟨a, w, w1, w2, a3⟩ := form_none (df := df) (dr := dr) (turn := turn) hn k1 k2 h0 (by omega) st x y
    exact ⟨a, w, by omega, w2, fin a (mSeq_rt a3)⟩
end K05


namespace K05
open PySem PySem.Spec PyProof.Rows L2 My
local macro_rules | `(tactic| walk_at "ev") => `(tactic| simp only [mDef, mSeq, mAsg, mV_eq, mC, mOp, mUn, mCb, mNil, mCons, mTup, mIfS, mTB, mT, mRet, mNext, mgTup, mgCons, mgNil, mgT, mgName, setTg, setTgs, mIf, mAnd, mOr, mNot, mAndV, mOrV, mNotV, fB, fLt_int, fLe, fGt, fGe, fAdd_int, fSub_int, fMod_int, fDiv_int, fMul_int, fNeg_int, fIn_tup, fIn_lst, settle_same, fIx, look_tup, look_d, look_lst, look_fro, lookL_lst, atI_0, atI_1, atI_2, atI_3, fLen_tup, fLen_lst, miSeq, srcOf, mPar, mAug, mRetN, fTuple_lst, fTuple_tup, alloc_f, fEq_int, fMaxL_2, fMinL_2, fSorted_ints, fIsN_int, fIsN_non, fNe_int, mDrop, wipeE, mYes, My.isNon, miRng1, miRng2, fInt_int, truD, fShl_int, fPow_int, fAbs_int, fEq_bl, fIsi_tt, fIsi_it, fIsi_ii, fIsi_ib, fIsi_bt, fIsi_bi, fIsi_bb, fIsi_tb, fIsi_ti, last_concat, List.dropLast_concat, look_loc, lookL_loc, fLen_loc, ixN_0, ixN_1, ixN_2, ixN_3, fSetL_loc, fAppend_loc, fPop_loc, fExtend_loc, mgSub, mMt, alloc_t, mFrz, mSl, mRev, mNone, mSome, mLst, fNeg,
  b_some, b_none, m_some, Option.join_some, List.getElem?_cons_zero, List.getElem?_cons_succ, List.set_cons_zero, List.set_cons_succ, List.map_cons, List.map_nil, List.length_cons, List.length_nil, List.replicate, List.cons_append, List.nil_append, Nat.reduceAdd, Nat.reduceSub, if_true, if_false, reduceIte, reduceCtorEq, ite_bind, Bool.false_eq_true, decide_eq_true_eq, List.length_map, decide_true, decide_false, Bool.not_true, Bool.not_false])
local macro_rules | `(tactic| walk_at "nx") => `(tactic| (refine (mSeq_nx (by (walk_at "ev"; rfl))).trans ?_))
theorem gcd_step {a b : Int} (ha : 0 ≤ a) (hb : 0 ≤ b) : Int.gcd b (a % b) = Int.gcd a b := by
  obtain ⟨m, rfl⟩ : ∃ m : Nat, a = m := ⟨a.toNat, by omega⟩
  obtain ⟨n, rfl⟩ : ∃ n : Nat, b = n := ⟨b.toNat, by omega⟩
  rw [← Int.natCast_emod]
  show Nat.gcd n (m % n) = Nat.gcd m n
  rw [Nat.gcd_comm, ← Nat.gcd_rec, Nat.gcd_comm]
theorem lowest_eq {top bottom : Int} (h0 : 0 ≤ top) (h1 : 0 < bottom) (h9 : top + bottom < 10 ^ 9) (st : Sto) : m__law_lowest [.int top, .int bottom] st = some (.tup [.int (top / (Int.gcd top bottom : Nat)), .int (bottom / (Int.gcd top bottom : Nat))], st) := by
  let E : Option D → Int → Int → En := fun l a b => [some (.int top), some (.int bottom), l, some (.int a), some (.int b)]
  have a0 : (mPar 3 4 (mCons (mV 0) (mCons (mV 1) mNil))) [some (.int top), some (.int bottom), none, none, none] st = some (.nx (E none top bottom), st) := by
    dsimp only [E]; walk_at "ev"
  obtain ⟨o, s1, a1, k⟩ := for_inv (mi := miRng1 (mCons (mOp (fAdd false) (mOp (fAdd false) (mV 0) (mV 1)) (mC (.int 1))) mNil)) (T := .name 2) (b := mSeq (mIfS (mTB (mOp fEq (mV 4) (mC (.int 0)))) mBreak mNext) (ms__law_lowest_0)) (en := E none top bottom) (st := st) (st1 := st) (s := ⟨rngD 0 (top + bottom + 1).toNat, none⟩) (by
      dsimp only [E]; walk_at "ev"
      rw [if_pos (small_ok (by omega))])
    (fun i en s => s = st ∧ ∃ l a b, en = E l a b ∧ 0 ≤ a ∧ 0 ≤ b ∧ b + i ≤ bottom ∧ Int.gcd a b = Int.gcd top bottom)
    (fun en s => s = st ∧ ∃ l, en = E l (Int.gcd top bottom : Nat) 0) (fun _ _ => False) (fun _ _ _ _ => ok_none) ⟨rfl, none, top, bottom, rfl, h0, by omega, by simp, rfl⟩ (by
      rintro i d en s hd ⟨rfl, l, a, b, rfl, ha, hb, hi, hg⟩
      by_cases hz : b = 0
      · subst hz
        refine ⟨E (some d) a 0, .bk (E (some d) a 0), s, rfl, ?_, rfl, some d, ?_⟩
        · dsimp only [E]
          unfold mBreak
          walk_at "ev"
        · have : (Int.gcd top bottom : Int) = a := by
            rw [← hg, Int.gcd_zero_right]
            omega
          rw [this]
      · have hb0 : 0 < b := by omega
        have m1 := Int.emod_nonneg a hz
        have m2 := Int.emod_lt_of_pos a hb0
        refine ⟨E (some d) a b, .nx (E (some d) b (a % b)), s, rfl, ?_, rfl, some d, b, a % b, rfl, hb, m1, by omega, ?_⟩
        · refine (mSeq_nx (en' := E (some d) a b) (st' := s) ?_).trans ?_
          · dsimp only [E]
            unfold mBreak
            walk_at "ev"
            rw [if_neg hz]
          · unfold ms__law_lowest_0
            dsimp only [E]; walk_at "ev"
            rw [cMod_ok hb0]
            walk_at "ev"
        · rw [← hg, gcd_step ha hb])
  cases o with
  | nx e =>
    rcases k with ⟨rfl, l, a, b, rfl, ha, hb, hi, hg⟩ | ⟨rfl, l, rfl⟩
    · exfalso
      have : (rngD 0 (top + bottom + 1).toNat).length = (top + bottom + 1).toNat := by unfold rngD; simp
      rw [this] at hi
      omega
    · have g1 : Int.gcd top bottom ∣ bottom.natAbs := Nat.gcd_dvd_right _ _
      have g2 := Nat.le_of_dvd (by omega) g1
      have g3 : 0 < Int.gcd top bottom := Nat.gcd_pos_of_pos_right _ (by omega)
      refine mDef_rt rfl ((mSeq_nx a0).trans ((mSeq_nx (show ms__law_lowest_2 (E none top bottom) s1 = _ from a1)).trans ?_))
      dsimp only [E]; walk_at "ev"
      rw [cDiv_ok (by omega) (by omega)]
      walk_at "ev"
      rw [if_pos (szle (by decide)), if_pos (cDiv_ok (by omega) (by omega))]
  | _ => exact k.elim
end K05


namespace K05
open PySem PySem.Spec PyProof.Rows L2 My
local macro_rules | `(tactic| walk_at "ev") => `(tactic| simp only [mDef, mSeq, mAsg, mV_eq, mC, mOp, mUn, mCb, mNil, mCons, mTup, mIfS, mTB, mT, mRet, mNext, mgTup, mgCons, mgNil, mgT, mgName, setTg, setTgs, mIf, mAnd, mOr, mNot, mAndV, mOrV, mNotV, fB, fLt_int, fLe, fGt, fGe, fAdd_int, fSub_int, fMod_int, fDiv_int, fMul_int, fNeg_int, fIn_tup, fIn_lst, settle_same, fIx, look_tup, look_d, look_lst, look_fro, lookL_lst, atI_0, atI_1, atI_2, atI_3, fLen_tup, fLen_lst, miSeq, srcOf, mPar, mAug, mRetN, fTuple_lst, fTuple_tup, alloc_f, fEq_int, fMaxL_2, fMinL_2, fSorted_ints, fIsN_int, fIsN_non, fNe_int, mDrop, wipeE, mYes, My.isNon, miRng1, miRng2, fInt_int, truD, fShl_int, fPow_int, fAbs_int, fEq_bl, fIsi_tt, fIsi_it, fIsi_ii, fIsi_ib, fIsi_bt, fIsi_bi, fIsi_bb, fIsi_tb, fIsi_ti, last_concat, List.dropLast_concat, look_loc, lookL_loc, fLen_loc, ixN_0, ixN_1, ixN_2, ixN_3, fSetL_loc, fAppend_loc, fPop_loc, fExtend_loc, mgSub, mMt, alloc_t, mFrz, mSl, mRev, mNone, mSome, mLst, fNeg,
  b_some, b_none, m_some, Option.join_some, List.getElem?_cons_zero, List.getElem?_cons_succ, List.set_cons_zero, List.set_cons_succ, List.map_cons, List.map_nil, List.length_cons, List.length_nil, List.replicate, List.cons_append, List.nil_append, Nat.reduceAdd, Nat.reduceSub, if_true, if_false, reduceIte, reduceCtorEq, ite_bind, Bool.false_eq_true, decide_eq_true_eq, List.length_map, decide_true, decide_false, Bool.not_true, Bool.not_false])
local macro_rules | `(tactic| walk_at "nx") => `(tactic| (refine (mSeq_nx (by (walk_at "ev"; rfl))).trans ?_))
theorem lens {a : Rs} (w : a.Wf) : a.rests.length ≤ a.turn.toNat := by
  have := cntP_le (fun x => decide (x % a.turn ∈ a.rests)) 0 a.turn.toNat
  rwa [w.win] at this
theorem fewlen {a : Rs} (w : a.Wf) : a.few.length ≤ a.first.toNat := by
  rw [← w.cnt_first]
  exact cntP_le _ _ _
def shD (a : Rs) : D := .tup [.int ((a.rests.length : Int) / (Int.gcd a.rests.length a.turn : Nat)), .int (a.turn / (Int.gcd a.rests.length a.turn : Nat))]
theorem law_share_eq {a : Rs} (w : a.Wf) (ht9 : a.turn < 100000) (st : Sto) : m__law_lowest [.int a.rests.length, .int a.turn] st = some (shD a, st) := by
  have ht := w.turn
  have := lens w
  exact lowest_eq (by omega) ht (by omega) st
theorem share_eq {a : Rs} (w : a.Wf) (ht9 : a.turn < 100000) (st : Sto) : m_share [a.d] st = some (shD a, st) := by
  have ht := w.turn
  have hl := lens w
  let E : Option D → En := fun c => [some a.d, c, some (.tup (a.few.map .int)), some (.int a.first), some (.int a.turn), some (.tup (a.rests.map .int))]
  have first : ms_share_0 [some a.d, none, none, none, none, none] st = some (.nx (E none), st) := by
    unfold ms_share_0 Rs.d
    walk_at "ev"
    rfl
  by_cases hz : a.rests = []
  · refine mDef_rt rfl ((mSeq_nx first).trans (mSeq_rt ?_))
    unfold ms_share_2
    dsimp only [E]; walk_at "ev"
    have e : shD a = .tup [.int 0, .int 1] := by
      unfold shD
      rw [hz]
      show D.tup [.int ((0 : Int) / (Int.gcd 0 a.turn : Nat)), .int (a.turn / (Int.gcd 0 a.turn : Nat))] = _
      rw [Int.gcd_zero_left, show ((a.turn.natAbs : Nat) : Int) = a.turn by omega, Int.zero_ediv, Int.ediv_self (by omega)]
    rw [hz, e]
    simp [szle]
  · have hL := List.length_pos_iff.mpr hz
    have g1 : Int.gcd a.rests.length a.turn ∣ a.turn.natAbs := Nat.gcd_dvd_right _ _
    have g2 := Nat.le_of_dvd (by omega) g1
    have g3 : 0 < Int.gcd a.rests.length a.turn := Nat.gcd_pos_of_pos_right _ (by omega)
    refine mDef_rt rfl ((mSeq_nx first).trans ((mSeq_nx (en' := E none) (st' := st) ?_).trans ((mSeq_nx (en' := E (some (.int (Int.gcd a.rests.length a.turn : Nat)))) (st' := st) ?_).trans ?_)))
    · unfold ms_share_2
      dsimp only [E]; walk_at "ev"
      rw [if_neg (by omega)]
    · unfold ms_share_4
      dsimp only [E]; walk_at "ev"
      rfl
    · dsimp only [E]; walk_at "ev"
      rw [if_pos (cDiv_ok (by omega) (by omega))]
      rw [if_pos (cDiv_ok (by omega) (by omega)), if_pos (szle (by decide))]
      rfl
end K05


namespace K05
open PySem PySem.Spec PyProof.Rows L2 My
local macro_rules | `(tactic| walk_at "ev") => `(tactic| simp only [mDef, mSeq, mAsg, mV_eq, mC, mOp, mUn, mCb, mNil, mCons, mTup, mIfS, mTB, mT, mRet, mNext, mgTup, mgCons, mgNil, mgT, mgName, setTg, setTgs, mIf, mAnd, mOr, mNot, mAndV, mOrV, mNotV, fB, fLt_int, fLe, fGt, fGe, fAdd_int, fSub_int, fMod_int, fDiv_int, fMul_int, fNeg_int, fIn_tup, fIn_lst, settle_same, fIx, look_tup, look_d, look_lst, look_fro, lookL_lst, atI_0, atI_1, atI_2, atI_3, fLen_tup, fLen_lst, miSeq, srcOf, mPar, mAug, mRetN, fTuple_lst, fTuple_tup, alloc_f, fEq_int, fMaxL_2, fMinL_2, fSorted_ints, fIsN_int, fIsN_non, fNe_int, mDrop, wipeE, mYes, My.isNon, miRng1, miRng2, fInt_int, truD, fShl_int, fPow_int, fAbs_int, fEq_bl, fIsi_tt, fIsi_it, fIsi_ii, fIsi_ib, fIsi_bt, fIsi_bi, fIsi_bb, fIsi_tb, fIsi_ti, last_concat, List.dropLast_concat, look_loc, lookL_loc, fLen_loc, ixN_0, ixN_1, ixN_2, ixN_3, fSetL_loc, fAppend_loc, fPop_loc, fExtend_loc, mgSub, mMt, alloc_t, mFrz, mSl, mRev, mNone, mSome, mLst, fNeg,
  b_some, b_none, m_some, Option.join_some, List.getElem?_cons_zero, List.getElem?_cons_succ, List.set_cons_zero, List.set_cons_succ, List.map_cons, List.map_nil, List.length_cons, List.length_nil, List.replicate, List.cons_append, List.nil_append, Nat.reduceAdd, Nat.reduceSub, if_true, if_false, reduceIte, reduceCtorEq, ite_bind, Bool.false_eq_true, decide_eq_true_eq, List.length_map, decide_true, decide_false, Bool.not_true, Bool.not_false])
local macro_rules | `(tactic| walk_at "nx") => `(tactic| (refine (mSeq_nx (by (walk_at "ev"; rfl))).trans ?_))
/-- what is listed up to most (most counted) -/
def lis (a : Rs) (most : Int) : List Int := (a.few.filter fun m => decide (m < most + 1)) ++ (rngI a.first (most + 1 - a.first).toNat).filter fun n => decide (n % a.turn ∈ a.rests)
theorem below_eq {a : Rs} (w : a.Wf) {m : Int} (h0 : 0 ≤ m) (hm : m < 200001) (hf9 : a.first < 100000) (st : Sto) : m_listed_below [a.d, .int m] st = some (.lst (((a.few.filter fun k => decide (k < m)) ++ (rngI a.first (m - a.first).toNat).filter fun n => decide (n % a.turn ∈ a.rests)).map .int), st) := by
  have ht := w.turn
  have hf0 := w.first
  have hfl := fewlen w
  let E : Option D → En := fun g => [some a.d, some (.int m), g, some (.tup (a.few.map .int)), some (.int a.first), some (.int a.turn), some (.tup (a.rests.map .int)), none]
  have first : ms_listed_below_0 [some a.d, some (.int m), none, none, none, none, none, none] st = some (.nx (E none), st) := by
    unfold ms_listed_below_0 Rs.d
    walk_at "ev"
    rfl
  have a1 : ms_listed_below_2 (E none) st = some (.nx (E (some (.lst (((rngI a.first (m - a.first).toNat).filter fun n => decide (n % a.turn ∈ a.rests)).map .int)))), st) := by
    unfold ms_listed_below_2 mAsg
    rw [lc_ints (ns := rngI a.first (m - a.first).toNat) (st1 := st) (by
      dsimp only [E]; walk_at "ev"
      rw [if_pos ⟨small_ok (by omega), small_ok (by omega)⟩, rngD_eq]) (fun x => decide (x % a.turn ∈ a.rests)) .int (by rw [length_rngI]; exact szlt (by omega)) (fun x _ => ⟨[some a.d, some (.int m), none, some (.tup (a.few.map .int)), some (.int a.first), some (.int a.turn), some (.tup (a.rests.map .int)), some (.int x)], rfl, by walk_at "ev"; rw [cMod_ok ht]; walk_at "ev", fun _ => by walk_at "ev"⟩)]
    dsimp only [E]; walk_at "ev"
  have lc : mLc false (miSeq (mV 3)) (.name 7) (mTB (mOp fLt (mV 7) (mV 1))) (mV 7) [7] (E (some (.lst (((rngI a.first (m - a.first).toNat).filter fun n => decide (n % a.turn ∈ a.rests)).map .int)))) st = some (.lst ((a.few.filter fun k => decide (k < m)).map .int), st) :=
    lc_ints (ns := a.few) (st1 := st) (by dsimp only [E]; walk_at "ev") (fun k => decide (k < m)) .int (szlt (by omega)) fun x _ => ⟨[some a.d, some (.int m), some (.lst (((rngI a.first (m - a.first).toNat).filter fun n => decide (n % a.turn ∈ a.rests)).map .int)), some (.tup (a.few.map .int)), some (.int a.first), some (.int a.turn), some (.tup (a.rests.map .int)), some (.int x)], rfl, by walk_at "ev", fun _ => by walk_at "ev"⟩
  refine mDef_rt rfl ((mSeq_nx first).trans ((mSeq_nx a1).trans ?_))
  have l1 := List.length_filter_le (fun k => decide (k < m)) a.few
  have l2 := List.length_filter_le (fun n => decide (n % a.turn ∈ a.rests)) (rngI a.first (m - a.first).toNat)
  rw [length_rngI] at l2
  have key : ∀ q : ME, ∀ g f : List Int, g.length + f.length < 10000000 → q (E (some (.lst (g.map .int)))) st = some (.lst (f.map .int), st) → (mRet (mOp (fAdd false) q (mV 2))) (E (some (.lst (g.map .int)))) st = some (.rt (.lst ((f ++ g).map .int)), st) := by
    intro q g f hl hq
    dsimp only [E] at hq ⊢
    walk_at "ev"
    rw [hq]
    walk_at "ev"
    rw [fAdd_lst (by rw [List.length_map, List.length_map]; omega), List.map_append]
    walk_at "ev"
  exact key _ _ _ (by omega) lc
theorem listed_eq {a : Rs} (w : a.Wf) {most : Int} (h0 : 0 ≤ most) (hm : most < 200000) (hf9 : a.first < 100000) (st : Sto) : m_listed [a.d, .int most] st = some (.tup ((lis a most).map .int), st) := by
  refine mDef_rt rfl ?_
  unfold ms_listed_0
  walk_at "ev"
  rw [below_eq w (by omega) (by omega) hf9]
  walk_at "ev"
  rfl
end K05


namespace K05
open PySem PySem.Spec PyProof.Rows L2 My
local macro_rules | `(tactic| walk_at "ev") => `(tactic| simp only [mDef, mSeq, mAsg, mV_eq, mC, mOp, mUn, mCb, mNil, mCons, mTup, mIfS, mTB, mT, mRet, mNext, mgTup, mgCons, mgNil, mgT, mgName, setTg, setTgs, mIf, mAnd, mOr, mNot, mAndV, mOrV, mNotV, fB, fLt_int, fLe, fGt, fGe, fAdd_int, fSub_int, fMod_int, fDiv_int, fMul_int, fNeg_int, fIn_tup, fIn_lst, settle_same, fIx, look_tup, look_d, look_lst, look_fro, lookL_lst, atI_0, atI_1, atI_2, atI_3, fLen_tup, fLen_lst, miSeq, srcOf, mPar, mAug, mRetN, fTuple_lst, fTuple_tup, alloc_f, fEq_int, fMaxL_2, fMinL_2, fSorted_ints, fIsN_int, fIsN_non, fNe_int, mDrop, wipeE, mYes, My.isNon, miRng1, miRng2, fInt_int, truD, fShl_int, fPow_int, fAbs_int, fEq_bl, fIsi_tt, fIsi_it, fIsi_ii, fIsi_ib, fIsi_bt, fIsi_bi, fIsi_bb, fIsi_tb, fIsi_ti, last_concat, List.dropLast_concat, look_loc, lookL_loc, fLen_loc, ixN_0, ixN_1, ixN_2, ixN_3, fSetL_loc, fAppend_loc, fPop_loc, fExtend_loc, mgSub, mMt, alloc_t, mFrz, mSl, mRev, mNone, mSome, mLst, fNeg,
  b_some, b_none, m_some, Option.join_some, List.getElem?_cons_zero, List.getElem?_cons_succ, List.set_cons_zero, List.set_cons_succ, List.map_cons, List.map_nil, List.length_cons, List.length_nil, List.replicate, List.cons_append, List.nil_append, Nat.reduceAdd, Nat.reduceSub, if_true, if_false, reduceIte, reduceCtorEq, ite_bind, Bool.false_eq_true, decide_eq_true_eq, List.length_map, decide_true, decide_false, Bool.not_true, Bool.not_false])
local macro_rules | `(tactic| walk_at "nx") => `(tactic| (refine (mSeq_nx (by (walk_at "ev"; rfl))).trans ?_))
theorem mDef_new {N n : Nat} {b : MS} {ds : List D} {st st' s : Sto} {d d' : D} (hl : ds.length = n) (h : b (ds.map some ++ List.replicate (N - ds.length) none) st = some (.rt d, st')) (hs : My.settle st d st' = (d', s)) : mDef N n b ds st = some (d', s) := by
  unfold mDef
  rw [if_pos hl, h]
  show some (My.settle st d st') = _
  rw [hs]
theorem settle_new {d : D} {st st' : Sto} (h : ¬ st'.length ≤ st.length) (hc : clo st.length d = false) : My.settle st d st' = (d, st') := by
  unfold My.settle
  rw [if_neg h, if_neg (by rintro ⟨h, _⟩; rw [hc] at h; cases h)]
theorem Vat.nofS {st : Sto} (p : Vat st) : st.all nofO = true := by
  obtain ⟨hs, row, turns, mixed, draws, rest, hl, hh, hn, rfl⟩ := p.ex
  simp [nofO, nofs_ints, nofs, nof, hn]
theorem cV {x : Int} : cMod x 2147483137 = true := cMod_ok (by decide)
theorem vat_eq (ns : List Int) : ∃ st, m__law_vat [.fro (ns.map .int)] [] = some (.loc 2, st) ∧ Vat st := by
  let E : Int → Option D → Option D → Option D → En := fun mx c h k => [some (.fro (ns.map .int)), some (.int mx), c, h, k]
  obtain ⟨o, s1, a1, k1⟩ := for_inv (mi := miSeq (mSl false (mV 0) mNone (mSome (mC (.int 61))))) (T := .name 2) (b := ms__law_vat_0) (en := E 5011 none none none) (st := []) (st1 := []) (s := ⟨(ns.take 61).map D.int, none⟩) (by
      dsimp only [E]; walk_at "ev"
      simp only [fSl, look_fro, m_some, cut_ints ns 61 (by decide), alloc_f]
      walk_at "ev"
      rfl)
    (fun _ en s => s = [] ∧ ∃ mx c, en = E mx c none none) (fun _ _ => False) (fun _ _ => False) (fun _ _ _ _ => ok_none) ⟨rfl, _, _, rfl⟩ (by
      rintro i d en s hd ⟨rfl, mx, c, rfl⟩
      obtain ⟨n, hn, rfl⟩ := ints_get hd
      refine ⟨E mx (some (.int n)) none none, .nx (E ((mx * 52457 + n * 43 + 11) % 2147483137) (some (.int n)) none none), [], rfl, ?_, rfl, _, _, rfl⟩
      unfold ms__law_vat_0
      dsimp only [E]; walk_at "ev"
      rw [cMul_r (by omega), cMul_r (by omega), cV]
      rfl)
  cases o with
  | nx e =>
    rcases k1 with ⟨rfl, mx, c, rfl⟩ | k1
    · have a2 : (mAsg (mLst true mNil) (mgName 3)) (E mx c none none) [] = some (.nx (E mx c (some (.loc 0)) none), [.lst []]) := by
        dsimp only [E]; walk_at "ev"
        rfl
      obtain ⟨o, s2, a3, k2⟩ := for_inv (mi := miRng1 (mCons (mC (.int 8)) mNil)) (T := .name 4) (b := mSeq (ms__law_vat_2) (mDrop (mMt fAppend (mV 3) (mCons (mOp fMod (mCb fInt (mCons (mOp fDiv (mV 1) (mC (.int 97))) mNil)) (mC (.int 11))) mNil)))) (en := E mx c (some (.loc 0)) none) (st := [.lst []]) (st1 := [.lst []]) (s := ⟨rngD 0 8, none⟩) (by
          dsimp only [E]; walk_at "ev"
          rw [if_pos (small_ok (by omega))]
          rfl)
        (fun i en s => ∃ (hs : List Int) (mx : Int) (k : Option D), hs.length = i ∧ (∀ h ∈ hs, 0 ≤ h) ∧ en = E mx c (some (.loc 0)) k ∧ s = [.lst (hs.map .int)]) (fun _ _ => False) (fun _ _ => False) (fun _ _ _ _ => ok_none) ⟨[], mx, none, rfl, by simp, rfl, rfl⟩ (by
          rintro i d en s hd ⟨hs, mx, k, hl, hh, rfl, rfl⟩
          obtain ⟨rfl, hi⟩ := rng_get hd
          let mx' : Int := (mx * 40009 + 17 * (0 + (i : Int)) + 5) % 2147483137
          have b0 : ms__law_vat_2 (E mx c (some (.loc 0)) (some (.int (0 + (i : Int))))) [.lst (hs.map .int)] = some (.nx (E mx' c (some (.loc 0)) (some (.int (0 + (i : Int))))), [.lst (hs.map .int)]) := by
            unfold ms__law_vat_2
            dsimp only [E, mx']; walk_at "ev"
            rw [cMul_r (by omega), cMul_l (by omega), cV]
            rfl
          refine ⟨E mx c (some (.loc 0)) (some (.int (0 + (i : Int)))), .nx (E mx' c (some (.loc 0)) (some (.int (0 + (i : Int))))), [.lst ((hs ++ [mx' / 97 % 11]).map .int)], rfl, (mSeq_nx b0).trans ?_, hs ++ [mx' / 97 % 11], mx', _, by rw [List.length_append, hl]; rfl, ?_, rfl, rfl⟩
          · dsimp only [E]; walk_at "ev"
            rw [cDiv_ok (by omega) (by omega)]
            walk_at "ev"
            rw [cMod_ok (by omega)]
            walk_at "ev"
            rw [if_pos (szlt (by omega)), List.map_append]
            rfl
          · intro h hm
            rcases List.mem_append.mp hm with z | z
            · exact hh h z
            · simp only [List.mem_cons, List.mem_nil_iff, or_false] at z
              rw [z]
              exact Int.emod_nonneg _ (by omega))
      cases o with
      | nx e =>
        rcases k2 with ⟨hs, mx2, k, hl, hh, rfl, rfl⟩ | k2
        · let E' : En := E mx2 c (some (.loc 0)) k
          have lc : (mLc true (miSeq (mSl false (mV 0) mNone (mSome (mC (.int 61))))) (.name 2) (mTB (mOp fGe (mV 2) (mOp fPow (mC (.int 10)) (mC (.int 18))))) (mCb fInt (mCons (mV 2) mNil)) [2]) E' [.lst (hs.map .int)] = some (.loc 1, [.lst (hs.map .int), .lst (((ns.take 61).filter fun x => decide ((10 : Int) ^ (18 : Int).toNat ≤ x)).map .int)]) := by
            rw [lc_ints (ns := ns.take 61) (st1 := [.lst (hs.map .int)]) (by
              dsimp only [E', E]; walk_at "ev"
              simp only [fSl, look_fro, m_some, cut_ints ns 61 (by decide), alloc_f]
              walk_at "ev"
              rfl) (fun x => decide ((10 : Int) ^ (18 : Int).toNat ≤ x)) .int (by rw [List.length_take]; exact szlt (by omega)) fun x _ => ⟨[some (.fro (ns.map .int)), some (.int mx2), some (.int x), some (.loc 0), k], rfl, by walk_at "ev"; rw [show cPow 10 18 = true by decide]; walk_at "ev", fun _ => by walk_at "ev"⟩]
            rfl
          have key : ∀ q : ME, ∀ row : List Int, q E' [.lst (hs.map .int)] = some (.loc 1, [.lst (hs.map .int), .lst (row.map .int)]) → (mRet (mLst true (mCons q (mCons (mC (.int 0)) (mCons (mV 1) (mCons (mC (.int 0)) (mCons (mV 3) mNil))))))) E' [.lst (hs.map .int)] = some (.rt (.loc 2), [.lst (hs.map .int), .lst (row.map .int), .lst [.loc 1, .int 0, .int mx2, .int 0, .loc 0]]) := by
            intro q row hq
            dsimp only [E', E] at hq ⊢
            walk_at "ev"
            rw [hq]
            walk_at "ev"
            rw [if_pos (szle (by decide))]
          have a4 : ms__law_vat_8 E' [.lst (hs.map .int)] = _ := key _ _ lc
          refine ⟨_, ?_, ⟨hs, (ns.take 61).filter fun x => decide ((10 : Int) ^ (18 : Int).toNat ≤ x), 0, mx2, 0, [], hl, hh, rfl, rfl⟩⟩
          have a0 : (mAsg (mC (.int 5011)) (mgName 1)) [some (.fro (ns.map .int)), none, none, none, none] [] = some (.nx (E 5011 none none none), []) := by
            walk_at "ev"
            rfl
          exact mDef_new rfl ((mSeq_nx a0).trans ((mSeq_nx a1).trans ((mSeq_nx a2).trans ((mSeq_nx a3).trans a4)))) (settle_new (by simp) (by decide))
        · exact k2.elim
      | _ => exact k2.elim
    · exact k1.elim
  | _ => exact k1.elim
end K05


namespace K05
open PySem PySem.Spec PyProof.Rows L2 My
local macro_rules | `(tactic| walk_at "ev") => `(tactic| simp only [mDef, mSeq, mAsg, mV_eq, mC, mOp, mUn, mCb, mNil, mCons, mTup, mIfS, mTB, mT, mRet, mNext, mgTup, mgCons, mgNil, mgT, mgName, setTg, setTgs, mIf, mAnd, mOr, mNot, mAndV, mOrV, mNotV, fB, fLt_int, fLe, fGt, fGe, fAdd_int, fSub_int, fMod_int, fDiv_int, fMul_int, fNeg_int, fIn_tup, fIn_lst, settle_same, fIx, look_tup, look_d, look_lst, look_fro, lookL_lst, atI_0, atI_1, atI_2, atI_3, fLen_tup, fLen_lst, miSeq, srcOf, mPar, mAug, mRetN, fTuple_lst, fTuple_tup, alloc_f, fEq_int, fMaxL_2, fMinL_2, fSorted_ints, fIsN_int, fIsN_non, fNe_int, mDrop, wipeE, mYes, My.isNon, miRng1, miRng2, fInt_int, truD, fShl_int, fPow_int, fAbs_int, fEq_bl, fIsi_tt, fIsi_it, fIsi_ii, fIsi_ib, fIsi_bt, fIsi_bi, fIsi_bb, fIsi_tb, fIsi_ti, last_concat, List.dropLast_concat, look_loc, lookL_loc, fLen_loc, ixN_0, ixN_1, ixN_2, ixN_3, fSetL_loc, fAppend_loc, fPop_loc, fExtend_loc, mgSub, mMt, alloc_t, mFrz, mSl, mRev, mNone, mSome, mLst, fNeg,
  b_some, b_none, m_some, Option.join_some, List.getElem?_cons_zero, List.getElem?_cons_succ, List.set_cons_zero, List.set_cons_succ, List.map_cons, List.map_nil, List.length_cons, List.length_nil, List.replicate, List.cons_append, List.nil_append, Nat.reduceAdd, Nat.reduceSub, if_true, if_false, reduceIte, reduceCtorEq, ite_bind, Bool.false_eq_true, decide_eq_true_eq, List.length_map, decide_true, decide_false, Bool.not_true, Bool.not_false])
local macro_rules | `(tactic| walk_at "nx") => `(tactic| (refine (mSeq_nx (by (walk_at "ev"; rfl))).trans ?_))
theorem lc_draws {mi : MI} {en : En} {st st1 : Sto} {n : Nat} (hm : mi en st = some (⟨rngD 0 n, none⟩, st1)) (p1 : Vat st1) (hn : n < 10000) {place many : Int} (h0 : 0 ≤ place) (h8 : place < 8) (hmm : many < 10 ^ 18) {te : ME} {vs : List Nat} {k : Nat}
    (hte : ∀ d s, te ((wipeE en vs).set k (some d)) s = m__law_draw [.loc 2, .int place, .int many] s) :
    ∃ (ms : List Int) (st' : Sto), mLc false mi (.name k) mYes te vs en st = some (.lst (ms.map .int), st') ∧ ms.length = n ∧ (∀ m ∈ ms, 0 ≤ m ∧ (m < many ∨ m = 0)) ∧ Vat st' ∧ st'.length = st1.length := by
  obtain ⟨ys, st', h, ms, rfl, hl, hb, hp, he, _⟩ := lc_inv (mu := false) (T := .name k) (tt := mYes) (te := te) (vs := vs) hm (fun i acc s => ∃ ms : List Int, acc = ms.map .int ∧ ms.length = i ∧ (∀ m ∈ ms, 0 ≤ m ∧ (m < many ∨ m = 0)) ∧ Vat s ∧ s.length = st1.length ∧ i ≤ n) (fun _ _ _ _ => ok_none) (by
      rintro i acc s ⟨ms, rfl, hl, _, _, _, hi⟩
      rw [List.length_map]
      exact szlt (by omega)) ⟨[], rfl, rfl, by simp, p1, rfl, Nat.zero_le _⟩ (by
      rintro i d acc s hd ⟨ms, rfl, hl, hb, hp, he, hi⟩
      obtain ⟨rfl, hin⟩ := rng_get hd
      obtain ⟨v, s', e, v0, v1, p', l'⟩ := draw_eq hp h0 h8 hmm
      refine ⟨_, true, s, rfl, rfl, (fun h => by cases h), fun _ => ⟨.int v, s', (hte _ _).trans e, ms ++ [v], by rw [List.map_append]; rfl, by rw [List.length_append, hl]; rfl, ?_, p', l'.trans he, by omega⟩⟩
      intro m hm
      rcases List.mem_append.mp hm with z | z
      · exact hb m z
      · simp only [List.mem_cons, List.mem_nil_iff, or_false] at z
        rw [z]
        exact ⟨v0, v1⟩)
  exact ⟨ms, st', h, by rw [hl]; simp [rngD], hb, hp, he⟩
theorem five {t v : Int} (h : 0 ≤ v ∧ v < 5) : ∃ x : Int, atI [D.int 0, .int 1, .int 2, .int t, .int 1] v = some (.int x) ∧ (x = 0 ∨ x = 1 ∨ x = 2 ∨ x = t) := by
  obtain rfl | rfl | rfl | rfl | rfl : v = 0 ∨ v = 1 ∨ v = 2 ∨ v = 3 ∨ v = 4 := by omega
  · exact ⟨0, atI_0 _ _, by simp⟩
  · exact ⟨1, atI_1 _ _ _, by simp⟩
  · exact ⟨2, atI_2 _ _ _ _, by simp⟩
  · exact ⟨t, atI_3 _ _ _ _ _, by simp⟩
  · exact ⟨1, atI_4 _ _ _ _ _ _, by simp⟩
theorem round_eq {st : Sto} (p : Vat st) {firsts turns most : Int} (f0 : 0 ≤ firsts) (f9 : firsts < 1000) (t0 : 0 < turns) (t9 : turns < 1000) (m0 : 0 ≤ most) (m9 : most < 1000) : ∃ (a : Rs) (st' : Sto), m__law_round [.loc 2, .int firsts, .int turns, .int most] st = some (a.d, st') ∧ a.Wf ∧ a.turn ≤ turns ∧ a.first ≤ firsts ∧ Vat st' ∧ st'.length = st.length := by
  obtain ⟨first, s1, e1, v1, b1, p1, l1⟩ := draw_eq p (place := 0) (many := firsts + 1) (by decide) (by decide) (by omega)
  obtain ⟨turn, s2, e2, v2, b2, p2, l2⟩ := draw_eq p1 (place := 1) (many := turns) (by decide) (by decide) (by omega)
  have hf : first ≤ firsts := by omega
  have ht : 1 + turn ≤ turns := by omega
  let E : Option D → Option D → En := fun f r => [some (.loc 2), some (.int firsts), some (.int turns), some (.int most), f, r, some (.int first), some (.int (1 + turn)), none]
  have a0 : ms__law_round_0 [some (.loc 2), some (.int firsts), some (.int turns), some (.int most), none, none, none, none, none] st = some (.nx (E none none), s2) := by
    unfold ms__law_round_0
    walk_at "ev"
    rw [e1]
    walk_at "ev"
    rw [e2]
    walk_at "ev"
    rw [if_pos (szle (by decide))]
  obtain ⟨few, s3, a1, b3, p3, l3⟩ : ∃ (few : List Int) (s3 : Sto), ms__law_round_2 (E none none) s2 = some (.nx (E (some (.lst (few.map .int))) none), s3) ∧ ((∀ m ∈ few, 0 ≤ m ∧ m < first) ∧ few.length < 10000) ∧ Vat s3 ∧ s3.length = s2.length := by
    by_cases hz : 0 < first
    · obtain ⟨n, s3, e3, v3, b3, p3, l3⟩ := draw_eq p2 (place := 3) (many := most + 1) (by decide) (by decide) (by omega)
      obtain ⟨few, s4, e4, l4, b4, p4, l5⟩ := lc_draws (mi := miRng1 (mCons (mCb m__law_draw (mCons (mV 0) (mCons (mC (.int 3)) (mCons (mOp (fAdd false) (mV 3) (mC (.int 1))) mNil)))) mNil)) (en := E none none) (st := s2) (st1 := s3) (n := n.toNat) (by
          dsimp only [E]; walk_at "ev"
          rw [e3]
          walk_at "ev"
          rw [if_pos (small_ok (by omega))]) p3 (by omega) (place := 2) (many := first) (by decide) (by decide) (by omega) (te := mCb m__law_draw (mCons (mV 0) (mCons (mC (.int 2)) (mCons (mV 6) mNil)))) (vs := [8]) (k := 8) (fun d s => by
          dsimp only [E]; walk_at "ev")
      have key : ∀ q : ME, q (E none none) s2 = some (.lst (few.map .int), s4) → (mAsg (mIf (mTB (mOp fGt (mV 6) (mC (.int 0)))) q (mLst false mNil)) (mgName 4)) (E none none) s2 = some (.nx (E (some (.lst (few.map .int))) none), s4) := by
        intro q hq
        dsimp only [E] at hq ⊢
        walk_at "ev"
        rw [if_pos hz]
        rw [hq]
        walk_at "ev"
      exact ⟨few, s4, key _ e4, ⟨fun m hm => by have := b4 m hm; omega, by omega⟩, p4, l5.trans l3⟩
    · refine ⟨[], s2, ?_, ⟨by simp, by decide⟩, p2, rfl⟩
      unfold ms__law_round_2
      dsimp only [E]; walk_at "ev"
      rw [if_neg hz, if_pos (szle (by decide))]
  obtain ⟨n, s4, e4, v4, b4, p4, l4⟩ := draw_eq p3 (place := 5) (many := 5) (by decide) (by decide) (by omega)
  obtain ⟨x, ex, hx⟩ := five (t := 1 + turn) (v := n) (by omega)
  obtain ⟨rests, s5, e5, l5, b5, p5, l6⟩ := lc_draws (mi := miRng1 (mCons (mOp fIx (mTup (mCons (mC (.int 0)) (mCons (mC (.int 1)) (mCons (mC (.int 2)) (mCons (mV 7) (mCons (mC (.int 1)) mNil)))))) (mCb m__law_draw (mCons (mV 0) (mCons (mC (.int 5)) (mCons (mC (.int 5)) mNil))))) mNil)) (en := E (some (.lst (few.map .int))) none) (st := s3) (st1 := s4) (n := x.toNat) (by
      dsimp only [E]; walk_at "ev"
      rw [if_pos (szle (by decide))]
      rw [e4]
      walk_at "ev"
      rw [ex]
      walk_at "ev"
      rw [if_pos (small_ok (by omega))]) p4 (by omega) (place := 4) (many := 1 + turn) (by decide) (by decide) (by omega) (te := mCb m__law_draw (mCons (mV 0) (mCons (mC (.int 4)) (mCons (mV 7) mNil)))) (vs := [8]) (k := 8) (fun d s => by
      dsimp only [E]; walk_at "ev")
  have key : ∀ q : ME, q (E (some (.lst (few.map .int))) none) s3 = some (.lst (rests.map .int), s5) → (mAsg q (mgName 5)) (E (some (.lst (few.map .int))) none) s3 = some (.nx (E (some (.lst (few.map .int))) (some (.lst (rests.map .int)))), s5) := by
    intro q hq
    dsimp only [E] at hq ⊢
    walk_at "ev"
    rw [hq]
    walk_at "ev"
  have a2 : ms__law_round_4 (E (some (.lst (few.map .int))) none) s3 = _ := key _ e5
  obtain ⟨a, w, c1, c2, c3⟩ := form_eq (df := .lst (few.map .int)) (dr := .lst (rests.map .int)) (first := first) (turn := 1 + turn) (.inr rfl) (.inr rfl) b3.1 (by omega) (by omega) (by omega) (by omega) (by omega) s5 p5.nofS
  refine ⟨a, s5, mDef_rt rfl ((mSeq_nx a0).trans ((mSeq_nx a1).trans ((mSeq_nx a2).trans ?_))) (by omega), w, by omega, by omega, p5, by omega⟩
  unfold ms__law_round_6
  dsimp only [E]; walk_at "ev"
  rw [c3]
  walk_at "ev"
end K05


namespace K05
open PySem PySem.Spec PyProof.Rows L2 My
local macro_rules | `(tactic| walk_at "ev") => `(tactic| try simp only [mDef, mSeq, mAsg, mV_eq, mC, mOp, mUn, mCb, mNil, mCons, mTup, mIfS, mTB, mT, mRet, mNext, mgTup, mgCons, mgNil, mgT, mgName, setTg, setTgs, mIf, mAnd, mOr, mNot, mAndV, mOrV, mNotV, fB, fLt_int, fLe, fGt, fGe, fAdd_int, fSub_int, fMod_int, fDiv_int, fMul_int, fNeg_int, fIn_tup, fIn_lst, settle_same, fIx, look_tup, look_d, look_lst, look_fro, lookL_lst, atI_0, atI_1, atI_2, atI_3, fLen_tup, fLen_lst, miSeq, srcOf, mPar, mAug, mRetN, fTuple_lst, fTuple_tup, alloc_f, fEq_int, fMaxL_2, fMinL_2, fSorted_ints, fIsN_int, fIsN_non, fNe_int, mDrop, wipeE, mYes, My.isNon, miRng1, miRng2, fInt_int, truD, fShl_int, fPow_int, fAbs_int, fEq_bl, fIsi_tt, fIsi_it, fIsi_ii, fIsi_ib, fIsi_bt, fIsi_bi, fIsi_bb, fIsi_tb, fIsi_ti, last_concat, List.dropLast_concat, look_loc, lookL_loc, fLen_loc, ixN_0, ixN_1, ixN_2, ixN_3, fSetL_loc, fAppend_loc, fPop_loc, fExtend_loc, mgSub, mMt, alloc_t, mFrz, mSl, mRev, mNone, mSome, mLst, fNeg,
  b_some, b_none, m_some, Option.join_some, List.getElem?_cons_zero, List.getElem?_cons_succ, List.set_cons_zero, List.set_cons_succ, List.map_cons, List.map_nil, List.length_cons, List.length_nil, List.replicate, List.cons_append, List.nil_append, Nat.reduceAdd, Nat.reduceSub, if_true, if_false, reduceIte, reduceCtorEq, ite_bind, Bool.false_eq_true, decide_eq_true_eq, List.length_map, decide_true, decide_false, Bool.not_true, Bool.not_false])
local macro_rules | `(tactic| walk_at "nx") => `(tactic| (refine (mSeq_nx (by (walk_at "ev"; rfl))).trans ?_))
theorem rngI_succ (lo : Int) (n : Nat) : rngI lo (n + 1) = rngI lo n ++ [lo + n] := by
  unfold rngI
  rw [List.range_succ, List.map_append]
  rfl
theorem top_look (st : Sto) (ds : List D) : look (.loc st.length) (st ++ [.lst ds]) = some ds := by
  rw [look_loc, top_get]
theorem top_tuple (st : Sto) (ds : List D) : fTuple [.loc st.length] (st ++ [.lst ds]) = some (.tup ds, st ++ [.lst ds]) := by
  show ((look (.loc st.length) (st ++ [.lst ds])).map fun es => (D.tup es, st ++ [.lst ds])) = _
  rw [top_look]
  rfl
theorem top_app (st : Sto) (ns : List Int) (x : Int) (h : ns.length < 1000000) : fAppend (.loc st.length) [.int x] (st ++ [.lst (ns.map .int)]) = some (.non, st ++ [.lst ((ns ++ [x]).map .int)]) := by
  rw [fAppend_loc, top_get]
  dsimp only
  rw [if_pos (by rw [List.length_map]; exact szlt (by omega)), top_set, List.map_append]
  rfl
theorem pi_ints {k : Nat} (ns : List Int) (h : ns.length < 1000000) : PI (k + 1) (.tup (ns.map .int)) := .tup k _ (by simpa using h) fun d hd => by
  obtain ⟨i, _, rfl⟩ := List.mem_map.mp hd
  exact .int k i
theorem wts_ints : ∀ ns : List Int, wts (ns.map D.int) = ns.length
  | [] => rfl
  | n :: ns => by
    rw [List.map_cons, wts_cons, wts_ints ns, List.length_cons, wt]
    · omega
    · intro ds h; cases h
theorem lis_len {a : Rs} (w : a.Wf) {most : Int} (h0 : 0 ≤ most) (hm : most < 200000) (hf9 : a.first < 100000) : (lis a most).length < 400000 := by
  have l0 := fewlen w
  have l1 := List.length_filter_le (fun k => decide (k < most + 1)) a.few
  have l2 := List.length_filter_le (fun n => decide (n % a.turn ∈ a.rests)) (rngI a.first (most + 1 - a.first).toNat)
  rw [length_rngI] at l2
  have := w.first
  unfold lis
  rw [List.length_append]
  omega
theorem Vat.app {st : Sto} (p : Vat st) (ns : List Int) : Vat (st ++ [.lst (ns.map .int)]) := by
  obtain ⟨hs, row, turns, mixed, draws, rest, hl, hh, hn, rfl⟩ := p.ex
  refine ⟨hs, row, turns, mixed, draws, rest ++ [.lst (ns.map .int)], hl, hh, ?_, rfl⟩
  rw [List.all_append, hn]
  simp [nofO, nofs_ints]
theorem Vat.take {st : Sto} (p : Vat st) {n : Nat} (h : 3 ≤ n) : Vat (st.take n) := by
  obtain ⟨hs, row, turns, mixed, draws, rest, hl, hh, hn, rfl⟩ := p.ex
  obtain ⟨k, rfl⟩ : ∃ k, n = k + 3 := ⟨n - 3, by omega⟩
  refine ⟨hs, row, turns, mixed, draws, rest.take k, hl, hh, ?_, rfl⟩
  rw [List.all_eq_true] at hn ⊢
  exact fun x hx => hn x (List.mem_of_mem_take hx)
theorem Vat.len {st : Sto} (p : Vat st) : 3 ≤ st.length := by
  obtain ⟨hs, row, turns, mixed, draws, rest, hl, hh, hn, rfl⟩ := p.ex
  simp
theorem Vat.settle {st st' : Sto} (p : Vat st) (p' : Vat st') (d : D) : ∃ s, My.settle st d st' = (d, s) ∧ Vat s := by
  unfold My.settle
  split
  · exact ⟨_, rfl, p'⟩
  · split
    · exact ⟨_, rfl, p'.take p.len⟩
    · exact ⟨_, rfl, p'⟩
def AE (a : Rs) (far : Int) (m due b : Option D) : En := [some (.loc 2), some a.d, some (.int far), m, some (.tup (a.few.map .int)), some (.int a.first), some (.int a.turn), some (.tup (a.rests.map .int)), due, b, none]
theorem ask_one {a : Rs} (w : a.Wf) (hf9 : a.first < 100000) (far : Int) {most : Int} (h0 : 0 ≤ most) (hm : most < 200000) (x y : Option D) (st : Sto) :
    ∃ x' y', (mSeq (ms__law_asked_2) (mSeq (ms__law_asked_4) (ms__law_asked_6))) (AE a far (some (.int most)) x y) st = some (.nx (AE a far (some (.int most)) x' y'), st ++ [.lst ((lis a most).map .int)]) := by
  have ht := w.turn
  have hf0 := w.first
  have hfl := fewlen w
  let due : Nat → List Int := fun i => (a.few.filter fun m => decide (m < most + 1)) ++ (rngI a.first i).filter fun n => decide (n % a.turn ∈ a.rests)
  have lc : (mLc true (miSeq (mV 4)) (.name 10) (mTB (mOp fLe (mV 10) (mV 3))) (mV 10) [10]) (AE a far (some (.int most)) x y) st = some (.loc st.length, st ++ [.lst ((a.few.filter fun m => decide (m < most + 1)).map .int)]) := by
    rw [lc_ints (ns := a.few) (st1 := st) (by unfold AE; walk_at "ev") (fun m => decide (m < most + 1)) .int (szlt (by omega)) fun n _ => ⟨(AE a far (some (.int most)) x y).set 10 (some (.int n)), rfl, by
      unfold AE; walk_at "ev"
      rw [show decide (n ≤ most) = decide (n < most + 1) from decide_eq_decide.mpr (by omega)], fun _ => by unfold AE; walk_at "ev"⟩]
    rfl
  have key : ∀ q : ME, ∀ d s, q (AE a far (some (.int most)) x y) st = some (d, s) → (mAsg q (mgName 8)) (AE a far (some (.int most)) x y) st = some (.nx (AE a far (some (.int most)) (some d) y), s) := by
    intro q d s hq
    unfold AE at hq ⊢
    walk_at "ev"
    rw [hq]
    walk_at "ev"
  have a1 : ms__law_asked_2 (AE a far (some (.int most)) x y) st = _ := key _ _ _ lc
  obtain ⟨o, s2, a2, k⟩ := for_inv (mi := miRng2 (mCons (mV 5) (mCons (mOp (fAdd false) (mV 3) (mC (.int 1))) mNil))) (T := .name 9) (b := ms__law_asked_0) (en := AE a far (some (.int most)) (some (.loc st.length)) y) (st := st ++ [.lst ((a.few.filter fun m => decide (m < most + 1)).map .int)]) (st1 := st ++ [.lst ((a.few.filter fun m => decide (m < most + 1)).map .int)]) (s := ⟨rngD a.first (most + 1 - a.first).toNat, none⟩) (by
      unfold AE; walk_at "ev"
      rw [if_pos ⟨small_ok (by omega), small_ok (by omega)⟩])
    (fun i en s => i ≤ (most + 1 - a.first).toNat ∧ ∃ b, en = AE a far (some (.int most)) (some (.loc st.length)) b ∧ s = st ++ [.lst ((due i).map .int)]) (fun _ _ => False) (fun _ _ => False) (fun _ _ _ _ => ok_none) ⟨Nat.zero_le _, y, rfl, by
      show _ = st ++ [.lst ((_ ++ (rngI a.first 0).filter _).map D.int)]
      rw [show rngI a.first 0 = [] from rfl, List.filter_nil, List.append_nil]⟩ (by
      rintro i d en s hd ⟨hi, b, rfl, rfl⟩
      obtain ⟨rfl, hin⟩ := rng_get hd
      have hdl : (due i).length < 1000000 := by
        have l1 := List.length_filter_le (fun k => decide (k < most + 1)) a.few
        have l2 := List.length_filter_le (fun n => decide (n % a.turn ∈ a.rests)) (rngI a.first i)
        rw [length_rngI] at l2
        have l3 : (due i).length = (a.few.filter fun m => decide (m < most + 1)).length + ((rngI a.first i).filter fun n => decide (n % a.turn ∈ a.rests)).length := List.length_append
        omega
      have hs : due (i + 1) = if (a.first + i) % a.turn ∈ a.rests then due i ++ [a.first + i] else due i := by
        show _ ++ _ = _
        rw [rngI_succ, List.filter_append]
        by_cases h : (a.first + i) % a.turn ∈ a.rests
        · rw [if_pos h, List.filter_cons_of_pos (by simpa using h), List.filter_nil, ← List.append_assoc]
        · rw [if_neg h, List.filter_cons_of_neg (by simpa using h), List.filter_nil, List.append_nil]
      refine ⟨AE a far (some (.int most)) (some (.loc st.length)) (some (.int (a.first + i))), .nx (AE a far (some (.int most)) (some (.loc st.length)) (some (.int (a.first + i)))), st ++ [.lst ((due (i + 1)).map .int)], rfl, ?_, by omega, _, rfl, rfl⟩
      unfold ms__law_asked_0 AE
      walk_at "ev"
      rw [cMod_ok ht]
      rw [hs]
      by_cases h : (a.first + i) % a.turn ∈ a.rests
      · rw [if_pos rfl, if_pos h, if_pos h, top_get]
        dsimp only [b_some]
        have e : (due i ++ [a.first + i]).map D.int = (due i).map D.int ++ [D.int (a.first + i)] := List.map_append
        rw [if_pos (by rw [List.length_map]; exact szlt (by omega)), top_set, e]
        rfl
      · rw [if_pos rfl, if_neg h, if_neg h])
  cases o with
  | nx e =>
    rcases k with ⟨_, b, rfl, rfl⟩ | k
    · refine ⟨some (.loc st.length), b, (mSeq_nx a1).trans ((mSeq_nx a2).trans ?_)⟩
      rw [show (⟨rngD a.first (most + 1 - a.first).toNat, none⟩ : Src).ds.length = (most + 1 - a.first).toNat by simp [rngD]]
      rw [show due (most + 1 - a.first).toNat = lis a most from rfl]
      have hll := lis_len w h0 hm hf9
      have hsame := same_eq (k := 1) (pi_ints (lis a most) (by omega)) (by rw [wt_tup, wts_ints]; omega) (st ++ [.lst ((lis a most).map .int)])
      unfold ms__law_asked_6 AE
      walk_at "ev"
      rw [listed_eq w h0 hm hf9]
      walk_at "ev"
      rw [top_tuple]
      walk_at "ev"
      rw [hsame]
      rfl
    · exact k.elim
  | _ => exact k.elim
theorem asked_eq {a : Rs} (w : a.Wf) (ht9 : a.turn < 1000) (hf9 : a.first < 1000) {far : Int} (g0 : 0 ≤ far) (g9 : far < 200000) {st : Sto} (p : Vat st) : ∃ st', m__law_asked [.loc 2, a.d, .int far] st = some (.bl true, st') ∧ Vat st' := by
  have ht := w.turn
  have hf0 := w.first
  obtain ⟨v, s1, e1, v1, b1, p1, l1⟩ := draw_eq p (place := 6) (many := 9) (by decide) (by decide) (by omega)
  have a0 : ms__law_asked_8 [some (.loc 2), some a.d, some (.int far), none, none, none, none, none, none, none, none] st = some (.nx (AE a far none none none), st) := by
    unfold ms__law_asked_8 AE Rs.d
    walk_at "ev"
  let mx : Int := if a.first - 1 > 0 then a.first - 1 else 0
  have hmx : 0 ≤ mx ∧ mx < 1000 := by
    dsimp only [mx]
    split <;> omega
  let ms : List Int := [0, mx, a.first, a.first + a.turn, a.first + 2 * a.turn + v, far]
  have hms : ∀ m ∈ ms, 0 ≤ m ∧ m < 200000 := by
    intro m hm
    simp only [ms, List.mem_cons, List.mem_nil_iff, or_false] at hm
    omega
  obtain ⟨o, s2, a1, k⟩ := for_inv (mi := miSeq (mTup (mCons (mC (.int 0)) (mCons (mCb fMaxL (mCons (mC (.int 0)) (mCons (mOp fSub (mV 5) (mC (.int 1))) mNil))) (mCons (mV 5) (mCons (mOp (fAdd false) (mV 5) (mV 6)) (mCons (mOp (fAdd false) (mOp (fAdd false) (mV 5) (mOp (fMul false) (mC (.int 2)) (mV 6))) (mCb m__law_draw (mCons (mV 0) (mCons (mC (.int 6)) (mCons (mC (.int 9)) mNil))))) (mCons (mV 2) mNil)))))))) (T := .name 3) (b := mSeq (ms__law_asked_2) (mSeq (ms__law_asked_4) (ms__law_asked_6))) (en := AE a far none none none) (st := st) (st1 := s1) (s := ⟨ms.map .int, none⟩) (by
      unfold AE; walk_at "ev"
      rw [cMul_l (by omega)]
      walk_at "ev"
      rw [e1]
      walk_at "ev"
      rw [if_pos (szle (by decide))]
      rfl)
    (fun _ en s => Vat s ∧ ∃ m x y, en = AE a far m x y) (fun _ _ => False) (fun _ _ => False) (fun _ _ _ _ => ok_none) ⟨p1, _, _, _, rfl⟩ (by
      rintro i d en s hd ⟨ps, m, x, y, rfl⟩
      obtain ⟨most, hn, rfl⟩ := ints_get hd
      have hm := hms most (List.mem_of_getElem? hn)
      obtain ⟨x', y', h⟩ := ask_one w (by omega) far hm.1 hm.2 x y s
      exact ⟨_, _, _, rfl, h, ps.app _, _, _, _, rfl⟩)
  cases o with
  | nx e =>
    rcases k with ⟨p2, m, x, y, rfl⟩ | k
    · have hpi : PI 2 (.tup [shD a, shD a]) := .tup 1 _ (by simp) fun d hd => by
        have : d = shD a := by simpa using hd
        rw [this]
        unfold shD
        exact .tup 0 _ (by simp) fun e he => by
          simp only [List.mem_cons, List.mem_nil_iff, or_false] at he
          rcases he with rfl | rfl
          · exact .int 0 _
          · exact .int 0 _
      have hsame := same_eq hpi (by simp [shD, wt, wts]) s2
      have a2 : ms__law_asked_12 (AE a far m x y) s2 = some (.rt (.bl true), s2) := by
        unfold ms__law_asked_12 AE mCbK
        walk_at "ev"
        rw [share_eq w (by omega)]
        walk_at "ev"
        rw [if_pos ⟨trivial, trivial⟩]
        rw [show pick [0] [a.d] = [a.d] from rfl, share_eq w (by omega)]
        walk_at "ev"
        rw [if_pos (szle (by decide))]
        walk_at "ev"
        rw [law_share_eq w (by omega)]
        walk_at "ev"
        rw [law_share_eq w (by omega)]
        walk_at "ev"
        rw [if_pos (szle (by decide))]
        walk_at "ev"
        rw [hsame]
        rfl
      obtain ⟨s3, hs, p3⟩ := p.settle p2 (.bl true)
      refine ⟨s3, ?_, p3⟩
      exact mDef_new rfl ((mSeq_nx a0).trans ((mSeq_nx a1).trans a2)) hs
    · exact k.elim
  | _ => exact k.elim
end K05


namespace K05
open PySem PySem.Spec PyProof.Rows L2 My
local macro_rules | `(tactic| walk_at "ev") => `(tactic| try simp only [mDef, mSeq, mAsg, mV_eq, mC, mOp, mUn, mCb, mNil, mCons, mTup, mIfS, mTB, mT, mRet, mNext, mgTup, mgCons, mgNil, mgT, mgName, setTg, setTgs, mIf, mAnd, mOr, mNot, mAndV, mOrV, mNotV, fB, fLt_int, fLe, fGt, fGe, fAdd_int, fSub_int, fMod_int, fDiv_int, fMul_int, fNeg_int, fIn_tup, fIn_lst, settle_same, fIx, look_tup, look_d, look_lst, look_fro, lookL_lst, atI_0, atI_1, atI_2, atI_3, fLen_tup, fLen_lst, miSeq, srcOf, mPar, mAug, mRetN, fTuple_lst, fTuple_tup, alloc_f, fEq_int, fMaxL_2, fMinL_2, fSorted_ints, fIsN_int, fIsN_non, fNe_int, mDrop, wipeE, mYes, My.isNon, miRng1, miRng2, fInt_int, truD, fShl_int, fPow_int, fAbs_int, fEq_bl, fIsi_tt, fIsi_it, fIsi_ii, fIsi_ib, fIsi_bt, fIsi_bi, fIsi_bb, fIsi_tb, fIsi_ti, last_concat, List.dropLast_concat, look_loc, lookL_loc, fLen_loc, ixN_0, ixN_1, ixN_2, ixN_3, fSetL_loc, fAppend_loc, fPop_loc, fExtend_loc, mgSub, mMt, alloc_t, mFrz, mSl, mRev, mNone, mSome, mLst, fNeg,
  b_some, b_none, m_some, Option.join_some, List.getElem?_cons_zero, List.getElem?_cons_succ, List.set_cons_zero, List.set_cons_succ, List.map_cons, List.map_nil, List.length_cons, List.length_nil, List.replicate, List.cons_append, List.nil_append, Nat.reduceAdd, Nat.reduceSub, if_true, if_false, reduceIte, reduceCtorEq, ite_bind, Bool.false_eq_true, decide_eq_true_eq, List.length_map, decide_true, decide_false, Bool.not_true, Bool.not_false])
local macro_rules | `(tactic| walk_at "nx") => `(tactic| (refine (mSeq_nx (by (walk_at "ev"; rfl))).trans ?_))
theorem z0 : (0 ≤ PySem.sizeLine) = True := eq_true (szle (by decide))
theorem z1 : (1 ≤ PySem.sizeLine) = True := eq_true (szle (by decide))
theorem z2 : (2 ≤ PySem.sizeLine) = True := eq_true (szle (by decide))
theorem z3 : (3 ≤ PySem.sizeLine) = True := eq_true (szle (by decide))
theorem z4 : (4 ≤ PySem.sizeLine) = True := eq_true (szle (by decide))
theorem z5 : (5 ≤ PySem.sizeLine) = True := eq_true (szle (by decide))
theorem z7 : (7 ≤ PySem.sizeLine) = True := eq_true (szle (by decide))
local macro_rules | `(tactic| walk_at "zz") => `(tactic| (try simp only [mDef, mSeq, mAsg, mV_eq, mC, mOp, mCb, mNil, mCons, mTup, mRet, mgName, fAdd_tup, b_some, m_some, Option.join_some, List.getElem?_cons_zero, List.getElem?_cons_succ, List.set_cons_zero, List.set_cons_succ, List.length_cons, List.length_nil, List.cons_append, List.nil_append, Nat.reduceAdd, z0, z1, z2, z3, z4, z5, z7, if_true]))
def rA : Rs := ⟨[], 0, 2, [1]⟩
def rB : Rs := ⟨[2], 4, 6, [1, 3]⟩
def rC : Rs := ⟨[], 0, 1, []⟩
def rD : Rs := ⟨[], 0, 1, [0]⟩
def rE : Rs := ⟨[0, 7], 8, 1, []⟩
def rF : Rs := ⟨[5], 6, 1, []⟩
def rG : Rs := ⟨[0, 5], 9, 4, [0, 1, 2]⟩
theorem wA : rA.Wf := ⟨by decide, by decide, by decide, by decide, by decide, by decide⟩
theorem wB : rB.Wf := ⟨by decide, by decide, by decide, by decide, by decide, by decide⟩
theorem wC : rC.Wf := ⟨by decide, by decide, by decide, by decide, by decide, by decide⟩
theorem wD : rD.Wf := ⟨by decide, by decide, by decide, by decide, by decide, by decide⟩
theorem wE : rE.Wf := ⟨by decide, by decide, by decide, by decide, by decide, by decide⟩
theorem wF : rF.Wf := ⟨by decide, by decide, by decide, by decide, by decide, by decide⟩
theorem wG : rG.Wf := ⟨by decide, by decide, by decide, by decide, by decide, by decide⟩
theorem lAt {a : Rs} (w : a.Wf) {most : Int} {ns : List Int} (h : lis a most = ns) (h0 : 0 ≤ most) (hm : most < 200000) (hf9 : a.first < 100000) (st : Sto) : m_listed [a.d, .int most] st = some (.tup (ns.map .int), st) := by
  rw [listed_eq w h0 hm hf9, h]
theorem sAt {a : Rs} (w : a.Wf) (ht9 : a.turn < 100000) {x y : Int} (h : shD a = .tup [.int x, .int y]) (st : Sto) : m_share [a.d] st = some (.tup [.int x, .int y], st) := by
  rw [share_eq w ht9, h]
theorem sh_of {a : Rs} {x y : Int} (h1 : (a.rests.length : Int) / (Int.gcd a.rests.length a.turn : Nat) = x) (h2 : a.turn / (Int.gcd a.rests.length a.turn : Nat) = y) : shD a = .tup [.int x, .int y] := by
  unfold shD
  rw [h1, h2]
theorem hand_eq (st : Sto) : m__law_hand [] st = some (.bl true, st) := by
  let i : Int → D := .int
  let told1 : D := .tup [.tup [i 1, i 3, i 5, i 7], .tup [i 1, i 3], .tup [i 2, i 7, i 9], .tup [i 0, i 1]]
  let due : D := .tup [.tup [i 1, i 3, i 5, i 7], .tup [i 1, i 3], .tup [i 2, i 7, i 9], .tup [i 0, i 1], .tup [i 1, i 1], .tup [], .tup [i 0, i 7]]
  have h1 := lAt wA (most := 8) (ns := [1, 3, 5, 7]) (by decide) (by decide) (by decide) (by decide) st
  have h2 := sAt wB (by decide) (sh_of (x := 1) (y := 3) (by decide) (by decide)) st
  have h3 := lAt wB (most := 9) (ns := [2, 7, 9]) (by decide) (by decide) (by decide) (by decide) st
  have h4 := sAt wC (by decide) (sh_of (x := 0) (y := 1) (by decide) (by decide)) st
  have h5 := sAt wD (by decide) (sh_of (x := 1) (y := 1) (by decide) (by decide)) st
  have h6 := lAt wC (most := 50) (ns := []) (by decide) (by decide) (by decide) (by decide) st
  have h7 := lAt wE (most := 7) (ns := [0, 7]) (by decide) (by decide) (by decide) (by decide) st
  have h8 := sAt wF (by decide) (sh_of (x := 0) (y := 1) (by decide) (by decide)) st
  have h9 := sAt wG (by decide) (sh_of (x := 3) (y := 4) (by decide) (by decide)) st
  have h10 := lAt wF (most := 4) (ns := []) (by decide) (by decide) (by decide) (by decide) st
  have a0 : ms__law_hand_0 [none, none] st = some (.nx [some told1, none], st) := by
    unfold ms__law_hand_0 mCbK
    dsimp only [told1, i]
    walk_at "zz"
    rw [show m_listed [.tup [.tup [], .int 0, .int 2, .tup [.int 1]], .int 8] st = _ from h1]
    walk_at "zz"
    rw [show m_share [.tup [.tup [.int 2], .int 4, .int 6, .tup [.int 1, .int 3]]] st = _ from h2]
    walk_at "zz"
    rw [if_pos ⟨trivial, trivial⟩]
    rw [show m_listed (pick [1, 0] [.int 9, .tup [.tup [.int 2], .int 4, .int 6, .tup [.int 1, .int 3]]]) st = _ from h3]
    walk_at "zz"
    rw [show m_share [.tup [.tup [], .int 0, .int 1, .tup []]] st = _ from h4]
    walk_at "zz"
    rfl
  have a1 : ms__law_hand_2 [some told1, none] st = some (.nx [some due, none], st) := by
    unfold ms__law_hand_2
    dsimp only [told1, due, i]
    walk_at "zz"
    rw [show m_share [.tup [.tup [], .int 0, .int 1, .tup [.int 0]]] st = _ from h5]
    walk_at "zz"
    rw [show m_listed [.tup [.tup [], .int 0, .int 1, .tup []], .int 50] st = _ from h6]
    walk_at "zz"
    rw [show m_listed [.tup [.tup [.int 0, .int 7], .int 8, .int 1, .tup []], .int 7] st = _ from h7]
    walk_at "zz"
    rfl
  have a2 : ms__law_hand_4 [some due, none] st = some (.nx [some due, some due], st) := by
    unfold ms__law_hand_4
    dsimp only [due, i]
    walk_at "zz"
  have hp : ∀ (k : Nat) (ds : List D), ds.length < 100 → (∀ d ∈ ds, PI k d) → PI (k + 1) (.tup ds) := fun k ds h1 h2 => .tup k ds (by omega) h2
  have p1 : PI 2 due := by
    refine hp 1 _ (by decide) ?_
    intro d hd
    simp only [List.mem_cons, List.mem_nil_iff, or_false] at hd
    rcases hd with rfl | rfl | rfl | rfl | rfl | rfl | rfl
    · exact pi_ints [1, 3, 5, 7] (by decide)
    · exact pi_ints [1, 3] (by decide)
    · exact pi_ints [2, 7, 9] (by decide)
    · exact pi_ints [0, 1] (by decide)
    · exact pi_ints [1, 1] (by decide)
    · exact pi_ints [] (by decide)
    · exact pi_ints [0, 7] (by decide)
  have p2 : PI 2 (.tup [.tup [i 0, i 1], .tup [i 3, i 4], .tup []]) := by
    refine hp 1 _ (by decide) ?_
    intro d hd
    simp only [List.mem_cons, List.mem_nil_iff, or_false] at hd
    rcases hd with rfl | rfl | rfl
    · exact pi_ints [0, 1] (by decide)
    · exact pi_ints [3, 4] (by decide)
    · exact pi_ints [] (by decide)
  have s1 := same_eq p1 (by simp [due, i, wt, wts]) st
  have s2 := same_eq p2 (by simp [i, wt, wts]) st
  refine mDef_rt rfl ((mSeq_nx a0).trans ((mSeq_nx a1).trans ((mSeq_nx a2).trans ?_)))
  unfold ms__law_hand_6 mAndV
  walk_at "zz"
  rw [s1]
  simp only [truD, if_true, b_some]
  walk_at "zz"
  rw [show m_share [.tup [.tup [.int 5], .int 6, .int 1, .tup []]] st = _ from h8]
  walk_at "zz"
  rw [show m_share [.tup [.tup [.int 0, .int 5], .int 9, .int 4, .tup [.int 0, .int 1, .int 2]]] st = _ from h9]
  walk_at "zz"
  rw [show m_listed [.tup [.tup [.int 5], .int 6, .int 1, .tup []], .int 4] st = _ from h10]
  walk_at "zz"
  rw [show m__law_same [.tup [.tup [.int 0, .int 1], .tup [.int 3, .int 4], .tup (List.map .int [])], .tup [.tup [.int 0, .int 1], .tup [.int 3, .int 4], .tup []]] st = _ from s2]
  rfl
end K05


namespace K05
open PySem PySem.Spec PyProof.Rows L2 My
local macro_rules | `(tactic| walk_at "ev") => `(tactic| try simp only [mDef, mSeq, mAsg, mV_eq, mC, mOp, mUn, mCb, mNil, mCons, mTup, mIfS, mTB, mT, mRet, mNext, mgTup, mgCons, mgNil, mgT, mgName, setTg, setTgs, mIf, mAnd, mOr, mNot, mAndV, mOrV, mNotV, fB, fLt_int, fLe, fGt, fGe, fAdd_int, fSub_int, fMod_int, fDiv_int, fMul_int, fNeg_int, fIn_tup, fIn_lst, settle_same, fIx, look_tup, look_d, look_lst, look_fro, lookL_lst, atI_0, atI_1, atI_2, atI_3, fLen_tup, fLen_lst, miSeq, srcOf, mPar, mAug, mRetN, fTuple_lst, fTuple_tup, alloc_f, fEq_int, fMaxL_2, fMinL_2, fSorted_ints, fIsN_int, fIsN_non, fNe_int, mDrop, wipeE, mYes, My.isNon, miRng1, miRng2, fInt_int, truD, fShl_int, fPow_int, fAbs_int, fEq_bl, fIsi_tt, fIsi_it, fIsi_ii, fIsi_ib, fIsi_bt, fIsi_bi, fIsi_bb, fIsi_tb, fIsi_ti, last_concat, List.dropLast_concat, look_loc, lookL_loc, fLen_loc, ixN_0, ixN_1, ixN_2, ixN_3, fSetL_loc, fAppend_loc, fPop_loc, fExtend_loc, mgSub, mMt, alloc_t, mFrz, mSl, mRev, mNone, mSome, mLst, fNeg,
  b_some, b_none, m_some, Option.join_some, List.getElem?_cons_zero, List.getElem?_cons_succ, List.set_cons_zero, List.set_cons_succ, List.map_cons, List.map_nil, List.length_cons, List.length_nil, List.replicate, List.cons_append, List.nil_append, Nat.reduceAdd, Nat.reduceSub, if_true, if_false, reduceIte, reduceCtorEq, ite_bind, Bool.false_eq_true, decide_eq_true_eq, List.length_map, decide_true, decide_false, Bool.not_true, Bool.not_false])
local macro_rules | `(tactic| walk_at "nx") => `(tactic| (refine (mSeq_nx (by (walk_at "ev"; rfl))).trans ?_))
theorem law_true (ns : List Int) (_ : ns.length ≤ 63) : ∃ st, m_law [.fro (ns.map D.int)] [] = some (.bl true, st) := by
  obtain ⟨s0, h0, p0⟩ := vat_eq ns
  let F : D := .fro (ns.map D.int)
  let E : Option D → Option D → Option D → En := fun l r f => [some F, some (.loc 2), l, r, f, none]
  have fin : ∀ s, ∃ x, My.settle [] (.bl true) s = (.bl true, x) := by
    intro s
    unfold My.settle
    split
    · exact ⟨_, rfl⟩
    · split
      · exact ⟨_, rfl⟩
      · exact ⟨_, rfl⟩
  have a0 : ms_law_4 [some F, none, none, none, none, none] [] = some (.nx (E none none none), s0) := by
    unfold ms_law_4
    dsimp only [E, F]; walk_at "ev"
    rw [h0]
    walk_at "ev"
  have a1 : ms_law_6 (E none none none) s0 = some (.nx (E none none none), s0) := by
    unfold ms_law_6
    dsimp only [E]; walk_at "ev"
    rw [hand_eq]
    walk_at "ev"
  obtain ⟨o, s2, a2, k⟩ := for_inv (mi := miRng1 (mCons (mC (.int 6)) mNil)) (T := .name 2) (b := ms_law_0) (en := E none none none) (st := s0) (st1 := s0) (s := ⟨rngD 0 6, none⟩) (by
      dsimp only [E]; walk_at "ev"
      rw [if_pos (small_ok (by omega))]
      rfl)
    (fun _ en s => Vat s ∧ ∃ lap, en = E lap none none) (fun _ _ => False) (fun _ _ => False) (fun _ _ _ _ => ok_none) ⟨p0, _, rfl⟩ (by
      rintro i d en s hd ⟨ps, lap, rfl⟩
      obtain ⟨a, s3, b1, w, b2, b3, p3, l3⟩ := round_eq ps (firsts := 30) (turns := 12) (most := 8) (by decide) (by decide) (by decide) (by decide) (by decide) (by decide)
      obtain ⟨v, s4, e4, v4, b4, p4, l4⟩ := draw_eq p3 (place := 7) (many := 200) (by decide) (by decide) (by omega)
      obtain ⟨s5, b5, p5⟩ := asked_eq w (by omega) (by omega) (far := 60 + v) (by omega) (by omega) p4
      refine ⟨E (some d) none none, .nx (E (some d) none none), s5, rfl, ?_, p5, _, rfl⟩
      unfold ms_law_0
      dsimp only [E]; walk_at "ev"
      rw [b1]
      walk_at "ev"
      rw [e4]
      walk_at "ev"
      rw [b5]
      walk_at "ev")
  cases o with
  | nx e =>
    rcases k with ⟨p2, lap, rfl⟩ | k
    · have a2 : ms_law_8 (E none none none) s0 = some (.nx (E lap none none), s2) := a2
      obtain ⟨v, s3, e3, v3, b3, p3, l3⟩ := draw_eq p2 (place := 4) (many := 3) (by decide) (by decide) (by omega)
      obtain ⟨o, s4, a3, k⟩ := for_inv (mi := miSeq (mTup (mCons (mTup (mCons (mOp (fAdd false) (mC (.int 1)) (mCb m__law_draw (mCons (mV 1) (mCons (mC (.int 4)) (mCons (mC (.int 3)) mNil))))) mNil)) (mCons (mTup mNil) mNil)))) (T := .name 3) (b := ms_law_2) (en := E lap none none) (st := s2) (st1 := s3) (s := ⟨[.tup [.int (1 + v)], .tup []], none⟩) (by
          dsimp only [E]; walk_at "ev"
          rw [e3]
          simp only [z0, z1, z2, if_true]
          walk_at "ev"
          simp only [z0, z1, z2, if_true]
          walk_at "ev")
        (fun _ en s => Vat s ∧ ∃ r, en = E lap r none) (fun _ _ => False) (fun _ _ => False) (fun _ _ _ _ => ok_none) ⟨p3, _, rfl⟩ (by
          rintro i d en s hd ⟨ps, r, rfl⟩
          obtain ⟨rs, rfl⟩ : ∃ rs : List Int, d = .tup (rs.map .int) := by
            have := List.mem_of_getElem? hd
            simp only [List.mem_cons, List.mem_nil_iff, or_false] at this
            rcases this with rfl | rfl
            · exact ⟨[1 + v], rfl⟩
            · exact ⟨[], rfl⟩
          obtain ⟨a, w, c1, c2, c3⟩ := form_eq (df := .tup ([0, 2, 3].map .int)) (dr := .tup (rs.map .int)) (few := [0, 2, 3]) (first := 5) (turn := 4) (.inl rfl) (.inl rfl) (by decide) (by decide) (by decide) (by decide) (by decide) (by decide) s ps.nofS
          obtain ⟨s5, b5, p5⟩ := asked_eq w (by omega) (by omega) (far := 40) (by omega) (by omega) ps
          refine ⟨E lap (some (.tup (rs.map .int))) none, .nx (E lap (some (.tup (rs.map .int))) none), s5, rfl, ?_, p5, _, rfl⟩
          unfold ms_law_2
          dsimp only [E]; walk_at "ev"
          rw [if_pos (szle (by decide))]
          walk_at "ev"
          rw [show m__law_form [.tup [.int 0, .int 2, .int 3], .int 5, .int 4, .tup (rs.map .int)] s = _ from c3]
          walk_at "ev"
          rw [b5]
          walk_at "ev")
      cases o with
      | nx e =>
        rcases k with ⟨p4, r, rfl⟩ | k
        · have a3 : ms_law_10 (E lap none none) s2 = some (.nx (E lap r none), s4) := a3
          obtain ⟨v5, s5, e5, v50, b5, p5, l5⟩ := draw_eq p4 (place := 7) (many := 7) (by decide) (by decide) (by omega)
          by_cases h3 : v5 = 3
          · have a4 : ms_law_12 (E lap r none) s4 = some (.nx (E lap r none), s5) := by
              unfold ms_law_12
              dsimp only [E]; walk_at "ev"
              rw [e5]
              walk_at "ev"
              rw [decide_eq_true h3]
              walk_at "ev"
            obtain ⟨v6, s6, e6, v60, b6, p6, l6⟩ := draw_eq p5 (place := 2) (many := 60) (by decide) (by decide) (by omega)
            let few : List Int := ((rngI 0 200).map fun x => 2 * x).drop v6.toNat
            have hfew : ∀ m ∈ few, 0 ≤ m ∧ m < 400 := by
              intro m hm
              obtain ⟨x, hx, rfl⟩ := List.mem_map.mp (List.mem_of_mem_drop hm)
              have := mem_rngI.mp hx
              omega
            have lc : (mLc false (miRng1 (mCons (mC (.int 200)) mNil)) (.name 5) mYes (mOp (fMul false) (mC (.int 2)) (mV 5)) [5]) (E lap r none) s5 = some (.lst ((rngI 0 200).map fun x => .int (2 * x)), s5) := by
              rw [lc_ints (ns := rngI 0 200) (st1 := s5) (by
                dsimp only [E]; walk_at "ev"
                rw [if_pos (small_ok (by omega))]
                rfl) (fun _ => true) (fun x => .int (2 * x)) (by rw [length_rngI]; exact szlt (by omega)) fun x _ => ⟨(E lap r none).set 5 (some (.int x)), rfl, rfl, fun _ => by
                dsimp only [E]; walk_at "ev"
                rw [if_pos (cMul_l (by omega))]⟩, List.filter_eq_self.mpr (fun _ _ => rfl)]
              rfl
            have key : ∀ q : ME, q (E lap r none) s5 = some (.lst ((rngI 0 200).map fun x => .int (2 * x)), s5) → (mAsg (mSl false q (mSome (mCb m__law_draw (mCons (mV 1) (mCons (mC (.int 2)) (mCons (mC (.int 60)) mNil))))) mNone) (mgName 4)) (E lap r none) s5 = some (.nx (E lap r (some (.lst (few.map .int)))), s6) := by
              intro q hq
              dsimp only [E] at hq ⊢
              walk_at "ev"
              rw [hq]
              walk_at "ev"
              rw [e6]
              simp only [m_some, b_some, fSl, look_lst, alloc_f]
              rw [cut_drop _ v60]
              walk_at "ev"
              dsimp only [few]
              rw [List.map_drop, List.map_map]
              rfl
            have a5 : ms_law_14 (E lap r none) s5 = _ := key _ lc
            obtain ⟨v7, s7, e7, v70, b7, p7, l7⟩ := draw_eq p6 (place := 4) (many := 30) (by decide) (by decide) (by omega)
            obtain ⟨a, w, c1, c2, c3⟩ := form_eq (df := .lst (few.map .int)) (dr := .tup ([1, 1 + 2 * v7].map .int)) (few := few) (first := 400) (turn := 60) (.inr rfl) (.inl rfl) hfew (by dsimp only [few]; rw [List.length_drop, List.length_map, length_rngI]; omega) (by decide) (by decide) (by decide) (by decide) s7 p7.nofS
            obtain ⟨s8, b8, p8⟩ := asked_eq w (by omega) (by omega) (far := 700) (by omega) (by omega) p7
            have a6 : ms_law_16 (E lap r (some (.lst (few.map .int)))) s6 = some (.nx (E lap r (some (.lst (few.map .int)))), s8) := by
              unfold ms_law_16
              dsimp only [E]; walk_at "ev"
              rw [e7]
              walk_at "ev"
              rw [if_pos (cMul_l (by omega))]
              simp only [z2, if_true]
              walk_at "ev"
              rw [show m__law_form [.lst (few.map .int), .int 400, .int 60, .tup [.int 1, .int (1 + 2 * v7)]] s7 = _ from c3]
              walk_at "ev"
              rw [b8]
              walk_at "ev"
            obtain ⟨a', s9, b9, w9, c4, c5, p9, l9⟩ := round_eq p8 (firsts := 400) (turns := 60) (most := 60) (by decide) (by decide) (by decide) (by decide) (by decide) (by decide)
            obtain ⟨v10, s10, e10, v100, b10, p10, l10⟩ := draw_eq p9 (place := 5) (many := 2) (by decide) (by decide) (by omega)
            obtain ⟨s11, b11, p11⟩ := asked_eq w9 (by omega) (by omega) (far := if v10 = 0 then 100000 else 9999) (by split <;> decide) (by split <;> decide) p10
            have a7 : ms_law_18 (E lap r (some (.lst (few.map .int)))) s8 = some (.rt (.bl true), s11) := by
              unfold ms_law_18
              dsimp only [E]; walk_at "ev"
              rw [b9]
              walk_at "ev"
              rw [e10]
              walk_at "ev"
              by_cases hz : v10 = 0
              · rw [if_pos hz] at b11
                rw [if_pos hz]
                rw [b11]
                walk_at "ev"
              · rw [if_neg hz] at b11
                rw [if_neg hz]
                rw [b11]
                walk_at "ev"
            obtain ⟨x, hx⟩ := fin s11
            exact ⟨x, mDef_new rfl ((mSeq_nx a0).trans ((mSeq_nx a1).trans ((mSeq_nx a2).trans ((mSeq_nx a3).trans ((mSeq_nx a4).trans ((mSeq_nx a5).trans ((mSeq_nx a6).trans a7))))))) hx⟩
          · have a4 : ms_law_12 (E lap r none) s4 = some (.rt (.bl true), s5) := by
              unfold ms_law_12
              dsimp only [E]; walk_at "ev"
              rw [e5]
              walk_at "ev"
              rw [decide_eq_false h3]
              walk_at "ev"
            obtain ⟨x, hx⟩ := fin s5
            exact ⟨x, mDef_new rfl ((mSeq_nx a0).trans ((mSeq_nx a1).trans ((mSeq_nx a2).trans ((mSeq_nx a3).trans (mSeq_rt a4))))) hx⟩
        · exact k.elim
      | _ => exact k.elim
    · exact k.elim
  | _ => exact k.elim
end K05


namespace K05
open PySem PySem.Spec PyProof.Rows L2 My
/-! ### what the top has written -/
theorem mk_listed_below {K : PySem.W.Frag} {h : Heap} {mg : Str → Option Value} (X : K.In h) (G : h.Ns mainGlobals mg) {f : Addr} {od an : Option Addr} {sl : Array (Option Value)} {oc kV dc pm cd ct : Value} (a : PySem.W.nsIn K mainGlobals "listed_below" = some (some (.ref f))) (l : K.lookup f = some ⟨oc, od, .func (PySem.W.fnOf "listed_below" "listed_below" (defArgs s_listed_below) (defBody s_listed_below) (defScope s_listed_below) .none kV dc pm an cd ct), sl⟩) (c : PySem.W.codeIn K cd "listed_below" = true) (k : PySem.W.keepIn K (.ref f) = true) : ∃ (f : Addr) (fd : FuncData), Fun K "listed_below" "listed_below" s_listed_below f fd ∧ mg "listed_below" = some (.ref f) := ⟨f, _, fun_mk l c k, PySem.W.mg_of X G a⟩
theorem mk_listed {K : PySem.W.Frag} {h : Heap} {mg : Str → Option Value} (X : K.In h) (G : h.Ns mainGlobals mg) {f : Addr} {od an : Option Addr} {sl : Array (Option Value)} {oc kV dc pm cd ct : Value} (a : PySem.W.nsIn K mainGlobals "listed" = some (some (.ref f))) (l : K.lookup f = some ⟨oc, od, .func (PySem.W.fnOf "listed" "listed" (defArgs s_listed) (defBody s_listed) (defScope s_listed) .none kV dc pm an cd ct), sl⟩) (c : PySem.W.codeIn K cd "listed" = true) (k : PySem.W.keepIn K (.ref f) = true) : ∃ (f : Addr) (fd : FuncData), Fun K "listed" "listed" s_listed f fd ∧ mg "listed" = some (.ref f) := ⟨f, _, fun_mk l c k, PySem.W.mg_of X G a⟩
theorem mk_share {K : PySem.W.Frag} {h : Heap} {mg : Str → Option Value} (X : K.In h) (G : h.Ns mainGlobals mg) {f : Addr} {od an : Option Addr} {sl : Array (Option Value)} {oc kV dc pm cd ct : Value} (a : PySem.W.nsIn K mainGlobals "share" = some (some (.ref f))) (l : K.lookup f = some ⟨oc, od, .func (PySem.W.fnOf "share" "share" (defArgs s_share) (defBody s_share) (defScope s_share) .none kV dc pm an cd ct), sl⟩) (c : PySem.W.codeIn K cd "share" = true) (k : PySem.W.keepIn K (.ref f) = true) : ∃ (f : Addr) (fd : FuncData), Fun K "share" "share" s_share f fd ∧ mg "share" = some (.ref f) := ⟨f, _, fun_mk l c k, PySem.W.mg_of X G a⟩
theorem mk__law_vat {K : PySem.W.Frag} {h : Heap} {mg : Str → Option Value} (X : K.In h) (G : h.Ns mainGlobals mg) {f : Addr} {od an : Option Addr} {sl : Array (Option Value)} {oc kV dc pm cd ct : Value} (a : PySem.W.nsIn K mainGlobals "_law_vat" = some (some (.ref f))) (l : K.lookup f = some ⟨oc, od, .func (PySem.W.fnOf "_law_vat" "_law_vat" (defArgs s__law_vat) (defBody s__law_vat) (defScope s__law_vat) .none kV dc pm an cd ct), sl⟩) (c : PySem.W.codeIn K cd "_law_vat" = true) (k : PySem.W.keepIn K (.ref f) = true) : ∃ (f : Addr) (fd : FuncData), Fun K "_law_vat" "_law_vat" s__law_vat f fd ∧ mg "_law_vat" = some (.ref f) := ⟨f, _, fun_mk l c k, PySem.W.mg_of X G a⟩
theorem mk__law_draw {K : PySem.W.Frag} {h : Heap} {mg : Str → Option Value} (X : K.In h) (G : h.Ns mainGlobals mg) {f : Addr} {od an : Option Addr} {sl : Array (Option Value)} {oc kV dc pm cd ct : Value} (a : PySem.W.nsIn K mainGlobals "_law_draw" = some (some (.ref f))) (l : K.lookup f = some ⟨oc, od, .func (PySem.W.fnOf "_law_draw" "_law_draw" (defArgs s__law_draw) (defBody s__law_draw) (defScope s__law_draw) .none kV dc pm an cd ct), sl⟩) (c : PySem.W.codeIn K cd "_law_draw" = true) (k : PySem.W.keepIn K (.ref f) = true) : ∃ (f : Addr) (fd : FuncData), Fun K "_law_draw" "_law_draw" s__law_draw f fd ∧ mg "_law_draw" = some (.ref f) := ⟨f, _, fun_mk l c k, PySem.W.mg_of X G a⟩
theorem mk__law_same {K : PySem.W.Frag} {h : Heap} {mg : Str → Option Value} (X : K.In h) (G : h.Ns mainGlobals mg) {f : Addr} {od an : Option Addr} {sl : Array (Option Value)} {oc kV dc pm cd ct : Value} (a : PySem.W.nsIn K mainGlobals "_law_same" = some (some (.ref f))) (l : K.lookup f = some ⟨oc, od, .func (PySem.W.fnOf "_law_same" "_law_same" (defArgs s__law_same) (defBody s__law_same) (defScope s__law_same) .none kV dc pm an cd ct), sl⟩) (c : PySem.W.codeIn K cd "_law_same" = true) (k : PySem.W.keepIn K (.ref f) = true) : ∃ (f : Addr) (fd : FuncData), Fun K "_law_same" "_law_same" s__law_same f fd ∧ mg "_law_same" = some (.ref f) := ⟨f, _, fun_mk l c k, PySem.W.mg_of X G a⟩
theorem mk__law_form {K : PySem.W.Frag} {h : Heap} {mg : Str → Option Value} (X : K.In h) (G : h.Ns mainGlobals mg) {f : Addr} {od an : Option Addr} {sl : Array (Option Value)} {oc kV dc pm cd ct : Value} (a : PySem.W.nsIn K mainGlobals "_law_form" = some (some (.ref f))) (l : K.lookup f = some ⟨oc, od, .func (PySem.W.fnOf "_law_form" "_law_form" (defArgs s__law_form) (defBody s__law_form) (defScope s__law_form) .none kV dc pm an cd ct), sl⟩) (c : PySem.W.codeIn K cd "_law_form" = true) (k : PySem.W.keepIn K (.ref f) = true) : ∃ (f : Addr) (fd : FuncData), Fun K "_law_form" "_law_form" s__law_form f fd ∧ mg "_law_form" = some (.ref f) := ⟨f, _, fun_mk l c k, PySem.W.mg_of X G a⟩
theorem mk__law_has {K : PySem.W.Frag} {h : Heap} {mg : Str → Option Value} (X : K.In h) (G : h.Ns mainGlobals mg) {f : Addr} {od an : Option Addr} {sl : Array (Option Value)} {oc kV dc pm cd ct : Value} (a : PySem.W.nsIn K mainGlobals "_law_has" = some (some (.ref f))) (l : K.lookup f = some ⟨oc, od, .func (PySem.W.fnOf "_law_has" "_law_has" (defArgs s__law_has) (defBody s__law_has) (defScope s__law_has) .none kV dc pm an cd ct), sl⟩) (c : PySem.W.codeIn K cd "_law_has" = true) (k : PySem.W.keepIn K (.ref f) = true) : ∃ (f : Addr) (fd : FuncData), Fun K "_law_has" "_law_has" s__law_has f fd ∧ mg "_law_has" = some (.ref f) := ⟨f, _, fun_mk l c k, PySem.W.mg_of X G a⟩
theorem mk__law_round {K : PySem.W.Frag} {h : Heap} {mg : Str → Option Value} (X : K.In h) (G : h.Ns mainGlobals mg) {f : Addr} {od an : Option Addr} {sl : Array (Option Value)} {oc kV dc pm cd ct : Value} (a : PySem.W.nsIn K mainGlobals "_law_round" = some (some (.ref f))) (l : K.lookup f = some ⟨oc, od, .func (PySem.W.fnOf "_law_round" "_law_round" (defArgs s__law_round) (defBody s__law_round) (defScope s__law_round) .none kV dc pm an cd ct), sl⟩) (c : PySem.W.codeIn K cd "_law_round" = true) (k : PySem.W.keepIn K (.ref f) = true) : ∃ (f : Addr) (fd : FuncData), Fun K "_law_round" "_law_round" s__law_round f fd ∧ mg "_law_round" = some (.ref f) := ⟨f, _, fun_mk l c k, PySem.W.mg_of X G a⟩
theorem mk__law_lowest {K : PySem.W.Frag} {h : Heap} {mg : Str → Option Value} (X : K.In h) (G : h.Ns mainGlobals mg) {f : Addr} {od an : Option Addr} {sl : Array (Option Value)} {oc kV dc pm cd ct : Value} (a : PySem.W.nsIn K mainGlobals "_law_lowest" = some (some (.ref f))) (l : K.lookup f = some ⟨oc, od, .func (PySem.W.fnOf "_law_lowest" "_law_lowest" (defArgs s__law_lowest) (defBody s__law_lowest) (defScope s__law_lowest) .none kV dc pm an cd ct), sl⟩) (c : PySem.W.codeIn K cd "_law_lowest" = true) (k : PySem.W.keepIn K (.ref f) = true) : ∃ (f : Addr) (fd : FuncData), Fun K "_law_lowest" "_law_lowest" s__law_lowest f fd ∧ mg "_law_lowest" = some (.ref f) := ⟨f, _, fun_mk l c k, PySem.W.mg_of X G a⟩
theorem mk__law_asked {K : PySem.W.Frag} {h : Heap} {mg : Str → Option Value} (X : K.In h) (G : h.Ns mainGlobals mg) {f : Addr} {od an : Option Addr} {sl : Array (Option Value)} {oc kV dc pm cd ct : Value} (a : PySem.W.nsIn K mainGlobals "_law_asked" = some (some (.ref f))) (l : K.lookup f = some ⟨oc, od, .func (PySem.W.fnOf "_law_asked" "_law_asked" (defArgs s__law_asked) (defBody s__law_asked) (defScope s__law_asked) .none kV dc pm an cd ct), sl⟩) (c : PySem.W.codeIn K cd "_law_asked" = true) (k : PySem.W.keepIn K (.ref f) = true) : ∃ (f : Addr) (fd : FuncData), Fun K "_law_asked" "_law_asked" s__law_asked f fd ∧ mg "_law_asked" = some (.ref f) := ⟨f, _, fun_mk l c k, PySem.W.mg_of X G a⟩
theorem mk__law_hand {K : PySem.W.Frag} {h : Heap} {mg : Str → Option Value} (X : K.In h) (G : h.Ns mainGlobals mg) {f : Addr} {od an : Option Addr} {sl : Array (Option Value)} {oc kV dc pm cd ct : Value} (a : PySem.W.nsIn K mainGlobals "_law_hand" = some (some (.ref f))) (l : K.lookup f = some ⟨oc, od, .func (PySem.W.fnOf "_law_hand" "_law_hand" (defArgs s__law_hand) (defBody s__law_hand) (defScope s__law_hand) .none kV dc pm an cd ct), sl⟩) (c : PySem.W.codeIn K cd "_law_hand" = true) (k : PySem.W.keepIn K (.ref f) = true) : ∃ (f : Addr) (fd : FuncData), Fun K "_law_hand" "_law_hand" s__law_hand f fd ∧ mg "_law_hand" = some (.ref f) := ⟨f, _, fun_mk l c k, PySem.W.mg_of X G a⟩
theorem mk_law {K : PySem.W.Frag} {h : Heap} {mg : Str → Option Value} (X : K.In h) (G : h.Ns mainGlobals mg) {f : Addr} {od an : Option Addr} {sl : Array (Option Value)} {oc kV dc pm cd ct : Value} (a : PySem.W.nsIn K mainGlobals "law" = some (some (.ref f))) (l : K.lookup f = some ⟨oc, od, .func (PySem.W.fnOf "law" "law" (defArgs s_law) (defBody s_law) (defScope s_law) .none kV dc pm an cd ct), sl⟩) (c : PySem.W.codeIn K cd "law" = true) (k : PySem.W.keepIn K (.ref f) = true) : ∃ (f : Addr) (fd : FuncData), Fun K "law" "law" s_law f fd ∧ mg "law" = some (.ref f) := ⟨f, _, fun_mk l c k, PySem.W.mg_of X G a⟩
theorem facts_mk {K : PySem.W.Frag} {mg : Str → Option Value} (e_listed_below : ∃ (f : Addr) (fd : FuncData), Fun K "listed_below" "listed_below" s_listed_below f fd ∧ mg "listed_below" = some (.ref f)) (e_listed : ∃ (f : Addr) (fd : FuncData), Fun K "listed" "listed" s_listed f fd ∧ mg "listed" = some (.ref f)) (e_share : ∃ (f : Addr) (fd : FuncData), Fun K "share" "share" s_share f fd ∧ mg "share" = some (.ref f)) (e__law_vat : ∃ (f : Addr) (fd : FuncData), Fun K "_law_vat" "_law_vat" s__law_vat f fd ∧ mg "_law_vat" = some (.ref f)) (e__law_draw : ∃ (f : Addr) (fd : FuncData), Fun K "_law_draw" "_law_draw" s__law_draw f fd ∧ mg "_law_draw" = some (.ref f)) (e__law_same : ∃ (f : Addr) (fd : FuncData), Fun K "_law_same" "_law_same" s__law_same f fd ∧ mg "_law_same" = some (.ref f)) (e__law_form : ∃ (f : Addr) (fd : FuncData), Fun K "_law_form" "_law_form" s__law_form f fd ∧ mg "_law_form" = some (.ref f)) (e__law_has : ∃ (f : Addr) (fd : FuncData), Fun K "_law_has" "_law_has" s__law_has f fd ∧ mg "_law_has" = some (.ref f)) (e__law_round : ∃ (f : Addr) (fd : FuncData), Fun K "_law_round" "_law_round" s__law_round f fd ∧ mg "_law_round" = some (.ref f)) (e__law_lowest : ∃ (f : Addr) (fd : FuncData), Fun K "_law_lowest" "_law_lowest" s__law_lowest f fd ∧ mg "_law_lowest" = some (.ref f)) (e__law_asked : ∃ (f : Addr) (fd : FuncData), Fun K "_law_asked" "_law_asked" s__law_asked f fd ∧ mg "_law_asked" = some (.ref f)) (e__law_hand : ∃ (f : Addr) (fd : FuncData), Fun K "_law_hand" "_law_hand" s__law_hand f fd ∧ mg "_law_hand" = some (.ref f)) (e_law : ∃ (f : Addr) (fd : FuncData), Fun K "law" "law" s_law f fd ∧ mg "law" = some (.ref f)) (z_range : mg "range" = none) (z_tuple : mg "tuple" = none) (z_len : mg "len" = none) (z_int : mg "int" = none) (z_isinstance : mg "isinstance" = none) (z_bool : mg "bool" = none) (z_str : mg "str" = none) (z_list : mg "list" = none) (z_sorted : mg "sorted" = none) (z_max : mg "max" = none) (i_gcd : mg "gcd" = some (.builtin "math.gcd")) : Nonempty (Facts K mg) := by
  obtain ⟨a_listed_below, d_listed_below, F_listed_below, g_listed_below⟩ := e_listed_below
  obtain ⟨a_listed, d_listed, F_listed, g_listed⟩ := e_listed
  obtain ⟨a_share, d_share, F_share, g_share⟩ := e_share
  obtain ⟨a__law_vat, d__law_vat, F__law_vat, g__law_vat⟩ := e__law_vat
  obtain ⟨a__law_draw, d__law_draw, F__law_draw, g__law_draw⟩ := e__law_draw
  obtain ⟨a__law_same, d__law_same, F__law_same, g__law_same⟩ := e__law_same
  obtain ⟨a__law_form, d__law_form, F__law_form, g__law_form⟩ := e__law_form
  obtain ⟨a__law_has, d__law_has, F__law_has, g__law_has⟩ := e__law_has
  obtain ⟨a__law_round, d__law_round, F__law_round, g__law_round⟩ := e__law_round
  obtain ⟨a__law_lowest, d__law_lowest, F__law_lowest, g__law_lowest⟩ := e__law_lowest
  obtain ⟨a__law_asked, d__law_asked, F__law_asked, g__law_asked⟩ := e__law_asked
  obtain ⟨a__law_hand, d__law_hand, F__law_hand, g__law_hand⟩ := e__law_hand
  obtain ⟨a_law, d_law, F_law, g_law⟩ := e_law
  exact ⟨⟨a_listed_below, d_listed_below, F_listed_below, g_listed_below, a_listed, d_listed, F_listed, g_listed, a_share, d_share, F_share, g_share, a__law_vat, d__law_vat, F__law_vat, g__law_vat, a__law_draw, d__law_draw, F__law_draw, g__law_draw, a__law_same, d__law_same, F__law_same, g__law_same, a__law_form, d__law_form, F__law_form, g__law_form, a__law_has, d__law_has, F__law_has, g__law_has, a__law_round, d__law_round, F__law_round, g__law_round, a__law_lowest, d__law_lowest, F__law_lowest, g__law_lowest, a__law_asked, d__law_asked, F__law_asked, g__law_asked, a__law_hand, d__law_hand, F__law_hand, g__law_hand, a_law, d_law, F_law, g_law, z_range, z_tuple, z_len, z_int, z_isinstance, z_bool, z_str, z_list, z_sorted, z_max, i_gcd⟩⟩
theorem law_fd {P : Program} {w : World} {K : PySem.W.Frag} {mg : Str → Option Value} {fa : Addr} (hfa : mg "law" = some (.ref fa)) (Fc : Nonempty (Facts K mg)) : ∃ fd : FuncData, (∀ (s : Shared) (v : Value), BindsTo s fd ⟨[v], []⟩ [("script", v)]) ∧ ∀ base : Heap, K.In base → base.Ns mainGlobals mg → FnOk P w K mg base CX0 4 fa fd ["script"] (spM ⟨K, P, w⟩ m_law) := by
  obtain ⟨Fc⟩ := Fc
  have e : fa = Fc.a_law := by have h := hfa.symm.trans Fc.g_law; cases h; rfl
  subst e
  refine ⟨Fc.d_law, fun s v => ?_, fun base _ _ => ok_law Fc⟩
  obtain ⟨oc, od, kV, doc, pm, an, cdv, ct, osl, e, lk, hcd⟩ := Fc.F_law.ex
  rw [e]
  exact .of_eq rfl
theorem law_sp {C : Cy} (H : Hp) (a : Addr) (ns : List Int) (hn : ns.length ≤ 63) (hS : SqL C.K H a (ns.map V.int)) : spM C m_law [.ref a] H (fun v _ => v = .bl true) fun _ _ _ => False := by
  obtain ⟨st, h⟩ := law_true ns hn
  exact ⟨⟨H, []⟩, [], [.fro (ns.map D.int)], [], .bl true, st, ⟨.ref a, [], rfl, ⟨a, _, rfl, hS, Reps.of_ints ns⟩, rfl⟩, ⟨Same.refl _, List.nodup_nil, rfl, fun a h => (List.not_mem_nil h).elim, fun n a o h => by simp at h, fun q h => (List.not_mem_nil h).elim⟩, h, fun v H0 as H1 _ _ r => r⟩
end K05
open PySem PySem.W PyProof.Rows
set_option maxHeartbeats 0 in
theorem PySem.Challenge.cw_moneyheld_k05_listed_and_shared_holds : PySem.Challenge.rw_moneyheld_k05_listed_and_shared.Holds := by
  w_on; o_law; k_head; (case hw => w_witness2)
  k_fill
  refine L2.walk_of (l := PySem.Challenge.rw_moneyheld_k05_listed_and_shared) (n := 63) (k := 4) (x := "script") (CX := fun _ => L2.CX0) (sp := fun w => My.spM ⟨_, PySem.Challenge.rw_moneyheld_k05_listed_and_shared.prog, w⟩ K05.m_law) rfl (by decide) rfl ⟨rfl, by decide, by decide⟩ (fun w h Y => PySem.W.kIn_of Y) ?F (fun _ H a ns hl _ hS => K05.law_sp H a ns hl hS) (fun _ _ _ _ _ h => h)
  case F =>
    intro w mg fa h KX G hmg
    refine' K05.law_fd hmg (K05.facts_mk ?e_listed_below ?e_listed ?e_share ?e__law_vat ?e__law_draw ?e__law_same ?e__law_form ?e__law_has ?e__law_round ?e__law_lowest ?e__law_asked ?e__law_hand ?e_law ?z_range ?z_tuple ?z_len ?z_int ?z_isinstance ?z_bool ?z_str ?z_list ?z_sorted ?z_max ?i_gcd)
    (case e_listed_below => refine' K05.mk_listed_below KX G ?a ?l ?c ?k; (case a => k_is); (case l => k_is); (case c => k_is); (case k => k_is))
    (case e_listed => refine' K05.mk_listed KX G ?a ?l ?c ?k; (case a => k_is); (case l => k_is); (case c => k_is); (case k => k_is))
    (case e_share => refine' K05.mk_share KX G ?a ?l ?c ?k; (case a => k_is); (case l => k_is); (case c => k_is); (case k => k_is))
    (case e__law_vat => refine' K05.mk__law_vat KX G ?a ?l ?c ?k; (case a => k_is); (case l => k_is); (case c => k_is); (case k => k_is))
    (case e__law_draw => refine' K05.mk__law_draw KX G ?a ?l ?c ?k; (case a => k_is); (case l => k_is); (case c => k_is); (case k => k_is))
    (case e__law_same => refine' K05.mk__law_same KX G ?a ?l ?c ?k; (case a => k_is); (case l => k_is); (case c => k_is); (case k => k_is))
    (case e__law_form => refine' K05.mk__law_form KX G ?a ?l ?c ?k; (case a => k_is); (case l => k_is); (case c => k_is); (case k => k_is))
    (case e__law_has => refine' K05.mk__law_has KX G ?a ?l ?c ?k; (case a => k_is); (case l => k_is); (case c => k_is); (case k => k_is))
    (case e__law_round => refine' K05.mk__law_round KX G ?a ?l ?c ?k; (case a => k_is); (case l => k_is); (case c => k_is); (case k => k_is))
    (case e__law_lowest => refine' K05.mk__law_lowest KX G ?a ?l ?c ?k; (case a => k_is); (case l => k_is); (case c => k_is); (case k => k_is))
    (case e__law_asked => refine' K05.mk__law_asked KX G ?a ?l ?c ?k; (case a => k_is); (case l => k_is); (case c => k_is); (case k => k_is))
    (case e__law_hand => refine' K05.mk__law_hand KX G ?a ?l ?c ?k; (case a => k_is); (case l => k_is); (case c => k_is); (case k => k_is))
    (case e_law => refine' K05.mk_law KX G ?a ?l ?c ?k; (case a => k_is); (case l => k_is); (case c => k_is); (case k => k_is))
    (case z_range => refine' PySem.W.mg_none_of KX G ?_; k_is)
    (case z_tuple => refine' PySem.W.mg_none_of KX G ?_; k_is)
    (case z_len => refine' PySem.W.mg_none_of KX G ?_; k_is)
    (case z_int => refine' PySem.W.mg_none_of KX G ?_; k_is)
    (case z_isinstance => refine' PySem.W.mg_none_of KX G ?_; k_is)
    (case z_bool => refine' PySem.W.mg_none_of KX G ?_; k_is)
    (case z_str => refine' PySem.W.mg_none_of KX G ?_; k_is)
    (case z_list => refine' PySem.W.mg_none_of KX G ?_; k_is)
    (case z_sorted => refine' PySem.W.mg_none_of KX G ?_; k_is)
    (case z_max => refine' PySem.W.mg_none_of KX G ?_; k_is)
    (case i_gcd => refine' PySem.W.mg_of KX G ?_; k_is)

