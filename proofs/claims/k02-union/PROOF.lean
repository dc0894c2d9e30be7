import PyProof.Rows.All
import HandS.ForMost
import HandS.IsInst
import HandS.SortInts
import HandS.Wide
import HandS.WideBits
import HandS.TupAny
import HandS.Defaults
import HandS.Gcd
import HandS.Strs
import HandS.SetFor
import HandS.Style
import HandS.Dict
import HandS.More
import HandS.Iter
import PyProof.Rows.SortShellAny
import HandS.CallLocal
import HandS.Flow
import HandS.Conv
import PySem.Challenge.RW_moneyheld_k02_union_meet_less

set_option Elab.async false
set_option linter.all false
set_option maxRecDepth 100000
set_option maxHeartbeats 4000000
/-! A layer of our own over HandS: expressions and statements as plain functions on data (D), an environment of slots and a store of mutable objects. -/
namespace My
open PySem PySem.Spec PyProof.Rows L2

/-- what a value is, without the heap -/
inductive D where
  | non | bl (b : Bool) | int (i : Int) | str (x : Str) | ty (n : String) | adr (a : Addr) | tup (ds : List D) | lst (ds : List D) | fro (ds : List D) | loc (n : Nat) | fdk (n : Nat) (ks : List Key) (ds : List D) | set (ns : List Int) | fn (x : Str)

/-- a mutable object -/
inductive SO where
  | dead | lst (ds : List D) | dK (kvs : List (Key × D)) | dT (kvs : List (List Key × D))

structure Cy where
  K : PySem.W.Frag
  P : Program
  w : World
abbrev cyOf (X : Cx) : Cy := ⟨X.K, X.prog, X.w⟩
/-- the part of the heap that stays, and objects held aside (g: they stay too, and are not looked at) -/
structure Hb where
  h : Hp
  g : List (Addr × HO)

section
variable (C : Cy) (H : Hb) (as : List Addr)
mutual
def Rep : D → V → Prop
  | .non, v => v = .non
  | .bl b, v => v = .bl b
  | .int i, v => v = .int i
  | .str x, v => v = .str x
  | .ty n, v => v = .ty n
  | .adr a, v => v = .ref a
  | .tup ds, v => ∃ a vs, v = .ref a ∧ SqT C.K H.h a vs ∧ Reps ds vs
  | .lst ds, v => ∃ a vs, v = .ref a ∧ H.h a = some (.lst vs) ∧ Reps ds vs
  | .fro ds, v => ∃ a vs, v = .ref a ∧ SqL C.K H.h a vs ∧ Reps ds vs
  | .loc n, v => ∃ a, as[n]? = some a ∧ v = .ref a
  | .fdk n ks ds, v => ∃ a ob vs, as[n]? = some a ∧ v = .ref a ∧ H.h a = some (.frz ob (.dK (ks.zip vs))) ∧ ks.length = ds.length ∧ Reps ds vs
  | .set ns, v => ∃ a S n, v = .ref a ∧ H.h a = some (SetO C.w a S n) ∧ (∀ k, S k = decide (k ∈ ns)) ∧ n ≤ sizeLine
  | .fn x, v => ∃ a, v = .ref a ∧ PySem.W.nsIn C.K mainGlobals x = some (some (.ref a))
def Reps : List D → List V → Prop
  | [], vs => vs = []
  | d :: ds, vs => ∃ v r, vs = v :: r ∧ Rep d v ∧ Reps ds r
end
def RepKV {κ : Type} : List (κ × D) → List (κ × V) → Prop
  | [], vs => vs = []
  | (k, d) :: ds, vs => ∃ v r, vs = (k, v) :: r ∧ Rep C H as d v ∧ RepKV ds r
def RepO : SO → HO → Prop
  | .dead, _ => True
  | .lst ds, o => ∃ vs, o = .lst vs ∧ Reps C H as ds vs
  | .dK kvs, o => ∃ vs, o = .dK vs ∧ RepKV C H as kvs vs
  | .dT kvs, o => ∃ vs, o = .dT vs ∧ RepKV C H as kvs vs
end

structure Le (H : Hb) (as : List Addr) (H' : Hb) (as' : List Addr) : Prop where
  same : Same H.h H'.h
  gh : H'.g = H.g
  pre : as <+: as'
theorem Le.refl {H : Hb} {as : List Addr} : Le H as H as := ⟨Same.refl H.h, rfl, List.prefix_rfl⟩
theorem Le.trans {H H1 H2 : Hb} {as as1 as2 : List Addr} (a : Le H as H1 as1) (b : Le H1 as1 H2 as2) : Le H as H2 as2 := ⟨a.same.trans b.same, b.gh.trans a.gh, a.pre.trans b.pre⟩

theorem same_seqT {K : PySem.W.Frag} {H H' : Hp} {a : Addr} {xs : List V} (e : Same H H') (h : SqT K H a xs) : SqT K H' a xs := by
  rcases h with (h | ⟨o, h⟩) | h
  · exact .inl (.inl (e _ _ h))
  · exact .inl (.inr ⟨o, e _ _ h⟩)
  · exact .inr h
theorem pre_get {as as' : List Addr} (h : as <+: as') {n : Nat} {a : Addr} (e : as[n]? = some a) : as'[n]? = some a := by
  obtain ⟨t, rfl⟩ := h
  rw [List.getElem?_append_left (List.getElem?_eq_some_iff.mp e).1]
  exact e
section
variable {C : Cy} {H H' : Hb} {as as' : List Addr}
mutual
theorem Rep.mono (l : Le H as H' as') : ∀ {d : D} {v : V}, Rep C H as d v → Rep C H' as' d v
  | .non, _, h => h
  | .bl _, _, h => h
  | .int _, _, h => h
  | .str _, _, h => h
  | .ty _, _, h => h
  | .adr _, _, h => h
  | .tup ds, _, h => by
    obtain ⟨a, vs, e, hs, hr⟩ := h
    exact ⟨a, vs, e, same_seqT l.same hs, Reps.mono l hr⟩
  | .lst ds, _, h => by
    obtain ⟨a, vs, e, hs, hr⟩ := h
    exact ⟨a, vs, e, l.same _ _ hs, Reps.mono l hr⟩
  | .fro ds, _, h => by
    obtain ⟨a, vs, e, hs, hr⟩ := h
    exact ⟨a, vs, e, l.same.seq hs, Reps.mono l hr⟩
  | .loc n, _, h => by
    obtain ⟨a, ha, e⟩ := h
    exact ⟨a, pre_get l.pre ha, e⟩
  | .fdk n ks ds, _, h => by
    obtain ⟨a, ob, vs, ha, e, hs, hl, hr⟩ := h
    exact ⟨a, ob, vs, pre_get l.pre ha, e, l.same _ _ hs, hl, Reps.mono l hr⟩
  | .set ns, _, h => by
    obtain ⟨a, S, n, e, hs, hr⟩ := h
    exact ⟨a, S, n, e, l.same _ _ hs, hr⟩
  | .fn _, _, h => h
theorem Reps.mono (l : Le H as H' as') : ∀ {ds : List D} {vs : List V}, Reps C H as ds vs → Reps C H' as' ds vs
  | [], _, h => h
  | d :: ds, _, h => by
    obtain ⟨v, r, e, h1, h2⟩ := h
    exact ⟨v, r, e, Rep.mono l h1, Reps.mono l h2⟩
end
theorem RepKV.mono {κ : Type} (l : Le H as H' as') : ∀ {ds : List (κ × D)} {vs : List (κ × V)}, RepKV C H as ds vs → RepKV C H' as' ds vs
  | [], _, h => h
  | (k, d) :: ds, _, h => by
    obtain ⟨v, r, e, h1, h2⟩ := h
    exact ⟨v, r, e, Rep.mono l h1, RepKV.mono l h2⟩
theorem RepO.mono (l : Le H as H' as') : ∀ {o : SO} {u : HO}, RepO C H as o u → RepO C H' as' o u
  | .dead, _, h => h
  | .lst _, _, ⟨vs, e, h⟩ => ⟨vs, e, h.mono l⟩
  | .dK _, _, ⟨vs, e, h⟩ => ⟨vs, e, h.mono l⟩
  | .dT _, _, ⟨vs, e, h⟩ => ⟨vs, e, h.mono l⟩
theorem Reps.length : ∀ {ds : List D} {vs : List V}, Reps C H as ds vs → ds.length = vs.length
  | [], _, h => by
    have h : _ = [] := h
    subst h
    rfl
  | d :: ds, _, h => by
    obtain ⟨v, r, rfl, _, h2⟩ := h
    simp [Reps.length h2]
theorem Reps.get : ∀ {ds : List D} {vs : List V} {i : Nat} {d : D}, Reps C H as ds vs → ds[i]? = some d → ∃ v, vs[i]? = some v ∧ Rep C H as d v
  | [], _, _, _, _, e => by simp at e
  | d :: ds, _, 0, _, h, e => by
    obtain ⟨v, r, rfl, h1, h2⟩ := h
    simp at e
    subst e
    exact ⟨v, rfl, h1⟩
  | d :: ds, _, i + 1, _, h, e => by
    obtain ⟨v, r, rfl, h1, h2⟩ := h
    exact Reps.get (i := i) h2 (by simpa using e)
theorem Reps.getV : ∀ {ds : List D} {vs : List V} {i : Nat} {v : V}, Reps C H as ds vs → vs[i]? = some v → ∃ d, ds[i]? = some d ∧ Rep C H as d v
  | [], vs, i, v, h, e => by
    have h : vs = [] := h
    subst h
    simp at e
  | d :: ds, _, 0, _, h, e => by
    obtain ⟨v, r, rfl, h1, h2⟩ := h
    simp at e
    subst e
    exact ⟨d, rfl, h1⟩
  | d :: ds, _, i + 1, _, h, e => by
    obtain ⟨v, r, rfl, h1, h2⟩ := h
    exact Reps.getV (i := i) h2 (by simpa using e)
theorem Reps.append : ∀ {ds es : List D} {vs us : List V}, Reps C H as ds vs → Reps C H as es us → Reps C H as (ds ++ es) (vs ++ us)
  | [], _, _, _, h, k => by
    have h : _ = [] := h
    subst h
    exact k
  | d :: ds, _, _, _, h, k => by
    obtain ⟨v, r, rfl, h1, h2⟩ := h
    exact ⟨v, r ++ _, rfl, h1, Reps.append h2 k⟩
theorem Reps.one {d : D} {v : V} (h : Rep C H as d v) : Reps C H as [d] [v] := ⟨v, [], rfl, h, rfl⟩
theorem Reps.take : ∀ {ds : List D} {vs : List V} (n : Nat), Reps C H as ds vs → Reps C H as (ds.take n) (vs.take n)
  | _, _, 0, _ => by simp [Reps]
  | [], _, n + 1, h => by
    have h : _ = [] := h
    subst h
    simp [Reps]
  | d :: ds, _, n + 1, h => by
    obtain ⟨v, r, rfl, h1, h2⟩ := h
    exact ⟨v, r.take n, rfl, h1, Reps.take n h2⟩
theorem Reps.drop : ∀ {ds : List D} {vs : List V} (n : Nat), Reps C H as ds vs → Reps C H as (ds.drop n) (vs.drop n)
  | _, _, 0, h => h
  | [], _, n + 1, h => by
    have h : _ = [] := h
    subst h
    simp [Reps]
  | d :: ds, _, n + 1, h => by
    obtain ⟨v, r, rfl, h1, h2⟩ := h
    exact Reps.drop n h2
theorem Reps.set {d : D} {v : V} (k : Rep C H as d v) : ∀ {ds : List D} {vs : List V} (n : Nat), Reps C H as ds vs → Reps C H as (ds.set n d) (vs.set n v)
  | [], _, n, h => by
    have h : _ = [] := h
    subst h
    simp [Reps]
  | e :: ds, _, 0, h => by
    obtain ⟨v', r, rfl, h1, h2⟩ := h
    exact ⟨v, r, rfl, k, h2⟩
  | e :: ds, _, n + 1, h => by
    obtain ⟨v', r, rfl, h1, h2⟩ := h
    exact ⟨v', _, rfl, h1, Reps.set k n h2⟩
theorem Reps.rev {ds : List D} {vs : List V} (h : Reps C H as ds vs) : Reps C H as ds.reverse vs.reverse := by
  induction ds generalizing vs with
  | nil =>
    have h : vs = [] := h
    subst h
    rfl
  | cons d ds ih =>
    obtain ⟨v, r, rfl, h1, h2⟩ := h
    rw [List.reverse_cons, List.reverse_cons]
    exact (ih h2).append (Reps.one h1)
theorem Reps.ints {ns : List Int} {vs : List V} (h : Reps C H as (ns.map D.int) vs) : vs = ns.map V.int := by
  induction ns generalizing vs with
  | nil => exact h
  | cons n ns ih =>
    obtain ⟨v, r, rfl, h1, h2⟩ := h
    have h1 : v = .int n := h1
    rw [h1, ih h2]
    rfl
theorem Reps.of_ints : ∀ (ns : List Int), Reps C H as (ns.map D.int) (ns.map V.int)
  | [] => rfl
  | n :: ns => ⟨.int n, ns.map V.int, rfl, rfl, Reps.of_ints ns⟩
end

abbrev Sto := List SO
abbrev En := List (Option D)

structure WR (C : Cy) (H0 : Hb) (as : List Addr) (st : Sto) (H : Hp) : Prop where
  ex : Same H0.h H
  nd : as.Nodup
  len : as.length = st.length
  liv : ∀ a ∈ as, ∃ o, H a = some o
  own : ∀ (n : Nat) a o, as[n]? = some a → st[n]? = some o → o = .dead ∨ (H0.h a = none ∧ ∃ ho, H a = some ho ∧ RepO C H0 as o ho)
  gho : ∀ p ∈ H0.g, H0.h p.1 = none ∧ p.1 ∉ as ∧ H p.1 = some p.2

structure EnR (C : Cy) (H0 : Hb) (as : List Addr) (en : En) (σ : L2.St) : Prop where
  len : en.length = σ.length
  at_ : ∀ (i : Nat) d, en[i]? = some (some d) → ∃ v, σ[i]? = some (some v) ∧ Rep C H0 as d v
theorem EnR.mono {C : Cy} {H H' : Hb} {as as' : List Addr} {en : En} {σ : L2.St} (l : Le H as H' as') (e : EnR C H as en σ) : EnR C H' as' en σ :=
  ⟨e.len, fun i d h => let ⟨v, a, b⟩ := e.at_ i d h; ⟨v, a, b.mono l⟩⟩
theorem EnR.set {C : Cy} {H : Hb} {as : List Addr} {en : En} {σ : L2.St} {d : D} {v : V} (e : EnR C H as en σ) (r : Rep C H as d v) (i : Nat) : EnR C H as (en.set i (some d)) (σ.set i (some v)) := by
  refine ⟨by rw [List.length_set, List.length_set, e.len], fun j d' h => ?_⟩
  by_cases hj : j = i
  · subst hj
    by_cases hl : j < en.length
    · rw [List.getElem?_set_self hl] at h
      cases h
      exact ⟨v, List.getElem?_set_self (by rw [← e.len]; exact hl), r⟩
    · rw [List.getElem?_eq_none_iff.mpr (by rw [List.length_set]; omega)] at h
      cases h
  · rw [List.getElem?_set_ne (Ne.symm hj)] at h
    rw [List.getElem?_set_ne (Ne.symm hj)]
    exact e.at_ j d' h

abbrev ME := En → Sto → Option (D × Sto)
abbrev MB := En → Sto → Option (Bool × Sto)
abbrev MA := En → Sto → Option (List D × Sto)
abbrev MO := En → Sto → Option (Option Int × Sto)
inductive Out where
  | nx (e : En) | rt (d : D) | bk (e : En) | ct (e : En)
abbrev MS := En → Sto → Option (Out × Sto)

/-- what follows a value -/
def KE (C : Cy) (H0 : Hb) (as : List Addr) (st : Sto) (d : D) (Q : VK) : Prop := ∀ v H0' as' H', Le H0 as H0' as' → WR C H0' as' st H' → Rep C H0' as' d v → Q v H'
def KB (C : Cy) (H0 : Hb) (as : List Addr) (st : Sto) (b : Bool) (Q : Bool → Hp → Prop) : Prop := ∀ H0' as' H', Le H0 as H0' as' → WR C H0' as' st H' → Q b H'
def KA (C : Cy) (H0 : Hb) (as : List Addr) (st : Sto) (ds : List D) (Q : List V → Hp → Prop) : Prop := ∀ vs H0' as' H', Le H0 as H0' as' → WR C H0' as' st H' → Reps C H0' as' ds vs → Q vs H'
def KS (C : Cy) (H0 : Hb) (as : List Addr) (st : Sto) (en : En) (Q : L2.St → Hp → Prop) : Prop := ∀ σ H0' as' H', Le H0 as H0' as' → WR C H0' as' st H' → EnR C H0' as' en σ → Q σ H'
def KO (C : Cy) (H0 : Hb) (as : List Addr) (st : Sto) (D : Ends) : Out → Prop
  | .nx en => KS C H0 as st en D.nx
  | .bk en => KS C H0 as st en D.bk
  | .ct en => KS C H0 as st en D.ct
  | .rt d => KE C H0 as st d D.rt
theorem KE.mono {C : Cy} {H H1 : Hb} {as as1 : List Addr} {st : Sto} {d : D} {Q : VK} (l : Le H as H1 as1) (k : KE C H as st d Q) : KE C H1 as1 st d Q := fun v H' as' H'' l' => k v H' as' H'' (l.trans l')
theorem KB.mono {C : Cy} {H H1 : Hb} {as as1 : List Addr} {st : Sto} {d : Bool} {Q : Bool → Hp → Prop} (l : Le H as H1 as1) (k : KB C H as st d Q) : KB C H1 as1 st d Q := fun H' as' H'' l' => k H' as' H'' (l.trans l')
theorem KA.mono {C : Cy} {H H1 : Hb} {as as1 : List Addr} {st : Sto} {d : List D} {Q : List V → Hp → Prop} (l : Le H as H1 as1) (k : KA C H as st d Q) : KA C H1 as1 st d Q := fun v H' as' H'' l' => k v H' as' H'' (l.trans l')
theorem KS.mono {C : Cy} {H H1 : Hb} {as as1 : List Addr} {st : Sto} {en : En} {Q : L2.St → Hp → Prop} (l : Le H as H1 as1) (k : KS C H as st en Q) : KS C H1 as1 st en Q := fun v H' as' H'' l' => k v H' as' H'' (l.trans l')
theorem KO.mono {C : Cy} {H H1 : Hb} {as as1 : List Addr} {st : Sto} {D : Ends} {o : Out} (l : Le H as H1 as1) (k : KO C H as st D o) : KO C H1 as1 st D o := by
  cases o with
  | nx en => exact KS.mono l k
  | bk en => exact KS.mono l k
  | ct en => exact KS.mono l k
  | rt d => exact KE.mono l k

def eM (C : Cy) (m : ME) : TE := fun σ H Q => ∃ H0 as en st d st', EnR C H0 as en σ ∧ WR C H0 as st H ∧ m en st = some (d, st') ∧ KE C H0 as st' d Q
def bM (C : Cy) (m : MB) : TT := fun σ H Q => ∃ H0 as en st b st', EnR C H0 as en σ ∧ WR C H0 as st H ∧ m en st = some (b, st') ∧ KB C H0 as st' b Q
def aM (C : Cy) (m : MA) : TA := fun σ H Q => ∃ H0 as en st ds st', EnR C H0 as en σ ∧ WR C H0 as st H ∧ m en st = some (ds, st') ∧ KA C H0 as st' ds Q
def oM (C : Cy) (m : MO) : TO := fun σ H Q => ∃ H0 as en st o st', EnR C H0 as en σ ∧ WR C H0 as st H ∧ m en st = some (o, st') ∧ ∀ H0' as' H', Le H0 as H0' as' → WR C H0' as' st' H' → Q o H'
def sM (C : Cy) (m : MS) : TS := fun D σ H => ∃ H0 as en st o st', EnR C H0 as en σ ∧ WR C H0 as st H ∧ m en st = some (o, st') ∧ KO C H0 as st' D o

section
variable {X : Cx} {e : Expr} {es : List Expr}
theorem PE.imp {t t' : TE} (h : PE X e t) (i : ∀ σ H Q, t' σ H Q → t σ H Q) : PE X e t' := ⟨fun pins s σ H Q I w => h.run pins s σ H Q I (i σ H Q w)⟩
theorem PT.imp {t t' : TT} (h : PT X e t) (i : ∀ σ H Q, t' σ H Q → t σ H Q) : PT X e t' := ⟨fun pins s σ H Q I w => h.run pins s σ H Q I (i σ H Q w)⟩
theorem PW.imp {t t' : TT} (h : PW X e t) (i : ∀ σ H Q, t' σ H Q → t σ H Q) : PW X e t' := ⟨fun wh pins s σ H Q I w => h.run wh pins s σ H Q I (i σ H Q w)⟩
theorem PA.imp {t t' : TA} (h : PA X es t) (i : ∀ σ H Q, t' σ H Q → t σ H Q) : PA X es t' := ⟨fun pos pins s σ H Q I w => h.run pos pins s σ H Q I (i σ H Q w)⟩
theorem PS.imp {st : Stmt} {t t' : TS} (h : PS X st t) (i : ∀ D σ H, t' D σ H → t D σ H) : PS X st t' := ⟨fun pins s σ H D I w => h.run pins s σ H D I (i D σ H w)⟩
theorem PSs.imp {st : List Stmt} {t t' : TS} (h : PSs X st t) (i : ∀ D σ H, t' D σ H → t D σ H) : PSs X st t' := ⟨fun pins s σ H D I w => h.run pins s σ H D I (i D σ H w)⟩
theorem PI.imp {tg : Expr} {t t' : TI} (h : PI X tg e t) (i : ∀ σ H R, t' σ H R → t σ H R) : PI X tg e t' := ⟨fun pins s σ H R I w => h.run pins s σ H R I (i σ H R w)⟩
end

/-! ### expressions -/
def mC (d : D) : ME := fun _ st => some (d, st)
def mV (i : Nat) : ME := fun en st => match en[i]? with
  | some (some d) => some (d, st)
  | _ => none
def mOp (f : D → D → Sto → Option (D × Sto)) (a b : ME) : ME := fun en st => (a en st).bind fun p => (b en p.2).bind fun q => f p.1 q.1 q.2
def mUn (f : D → Sto → Option (D × Sto)) (a : ME) : ME := fun en st => (a en st).bind fun p => f p.1 p.2
def mCb (f : List D → Sto → Option (D × Sto)) (a : MA) : ME := fun en st => (a en st).bind fun p => f p.1 p.2
def mNil : MA := fun _ st => some ([], st)
def mCons (a : ME) (r : MA) : MA := fun en st => (a en st).bind fun p => (r en p.2).bind fun q => some (p.1 :: q.1, q.2)

/-- what a rule by values gives, is what f says -/
def Ok2 (C : Cy) (r : R2) (f : D → D → Sto → Option (D × Sto)) : Prop := ∀ H0 as st H dx dy x y d st' Q, WR C H0 as st H → Rep C H0 as dx x → Rep C H0 as dy y → f dx dy st = some (d, st') → KE C H0 as st' d Q → r x y H Q
def Ok1 (C : Cy) (r : V → Hp → VK → Prop) (f : D → Sto → Option (D × Sto)) : Prop := ∀ H0 as st H dx x d st' Q, WR C H0 as st H → Rep C H0 as dx x → f dx st = some (d, st') → KE C H0 as st' d Q → r x H Q
def OkC (C : Cy) (r : List V → Hp → VK → Prop) (f : List D → Sto → Option (D × Sto)) : Prop := ∀ H0 as st H ds vs d st' Q, WR C H0 as st H → Reps C H0 as ds vs → f ds st = some (d, st') → KE C H0 as st' d Q → r vs H Q

section
variable {C : Cy} {σ : L2.St} {H : Hp} {Q : VK} {ma mb : ME}
theorem em_c {v : V} {d : D} (h : ∀ H0 as, Rep C H0 as d v) : eM C (mC d) σ H Q → tC v σ H Q := by
  rintro ⟨H0, as, en, st, d', st', e, w, hm, k⟩
  cases hm
  exact k v H0 as H Le.refl w (h H0 as)
theorem em_v {i : Nat} : eM C (mV i) σ H Q → tVar i σ H Q := by
  rintro ⟨H0, as, en, st, d', st', e, w, hm, k⟩
  unfold mV at hm
  split at hm
  · rename_i d0 h0
    cases hm
    obtain ⟨v, hv, r⟩ := e.at_ i _ h0
    exact ⟨v, hv, k v H0 as H Le.refl w r⟩
  · cases hm
theorem em_op {r : R2} {f : D → D → Sto → Option (D × Sto)} (ok : Ok2 C r f) : eM C (mOp f ma mb) σ H Q → tOp r (eM C ma) (eM C mb) σ H Q := by
  rintro ⟨H0, as, en, st, d, st', e, w, hm, k⟩
  unfold mOp at hm
  obtain ⟨⟨da, s1⟩, ha, hm⟩ := Option.bind_eq_some_iff.mp hm
  obtain ⟨⟨db, s2⟩, hb, hm⟩ := Option.bind_eq_some_iff.mp hm
  refine ⟨H0, as, en, st, da, s1, e, w, ha, fun x H1 as1 H1' l1 w1 r1 => ?_⟩
  refine ⟨H1, as1, en, s1, db, s2, e.mono l1, w1, hb, fun y H2 as2 H2' l2 w2 r2 => ?_⟩
  exact ok H2 as2 s2 H2' da db x y d st' Q w2 (r1.mono l2) r2 hm (k.mono (l1.trans l2))
theorem em_un {r : V → Hp → VK → Prop} {f : D → Sto → Option (D × Sto)} (ok : Ok1 C r f) : eM C (mUn f ma) σ H Q → tUn r (eM C ma) σ H Q := by
  rintro ⟨H0, as, en, st, d, st', e, w, hm, k⟩
  unfold mUn at hm
  obtain ⟨⟨da, s1⟩, ha, hm⟩ := Option.bind_eq_some_iff.mp hm
  refine ⟨H0, as, en, st, da, s1, e, w, ha, fun x H1 as1 H1' l1 w1 r1 => ?_⟩
  exact ok H1 as1 s1 H1' da x d st' Q w1 r1 hm (k.mono l1)
theorem am_nil {Q : List V → Hp → Prop} : aM C mNil σ H Q → tNil σ H Q := by
  rintro ⟨H0, as, en, st, d', st', e, w, hm, k⟩
  cases hm
  exact k [] H0 as H Le.refl w rfl
theorem am_cons {Q : List V → Hp → Prop} {mr : MA} : aM C (mCons ma mr) σ H Q → tCons (eM C ma) (aM C mr) σ H Q := by
  rintro ⟨H0, as, en, st, ds, st', e, w, hm, k⟩
  unfold mCons at hm
  obtain ⟨⟨da, s1⟩, ha, hm⟩ := Option.bind_eq_some_iff.mp hm
  obtain ⟨⟨db, s2⟩, hb, hm⟩ := Option.bind_eq_some_iff.mp hm
  cases hm
  refine ⟨H0, as, en, st, da, s1, e, w, ha, fun x H1 as1 H1' l1 w1 r1 => ?_⟩
  refine ⟨H1, as1, en, s1, db, s2, e.mono l1, w1, hb, fun y H2 as2 H2' l2 w2 r2 => ?_⟩
  exact k (x :: y) H2 as2 H2' (l1.trans l2) w2 ⟨x, y, rfl, r1.mono l2, r2⟩
theorem em_cb {r : List V → Hp → VK → Prop} {f : List D → Sto → Option (D × Sto)} (ok : OkC C r f) {m : MA} : eM C (mCb f m) σ H Q → tCB r (aM C m) σ H Q := by
  rintro ⟨H0, as, en, st, d, st', e, w, hm, k⟩
  unfold mCb at hm
  obtain ⟨⟨da, s1⟩, ha, hm⟩ := Option.bind_eq_some_iff.mp hm
  refine ⟨H0, as, en, st, da, s1, e, w, ha, fun x H1 as1 H1' l1 w1 r1 => ?_⟩
  exact ok H1 as1 s1 H1' da x d st' Q w1 r1 hm (k.mono l1)
end

/-! ### heaps that grow -/
theorem WR.grow {C : Cy} {H0 : Hb} {H : Hp} {as : List Addr} {st : Sto} (w : WR C H0 as st H) {p : Addr} {o : HO} (hp : H p = none) : WR C ⟨upd H0.h p o, H0.g⟩ as st (upd H p o) ∧ Le H0 as ⟨upd H0.h p o, H0.g⟩ as := by
  have h0 : H0.h p = none := w.ex.free hp
  have l : Le H0 as ⟨upd H0.h p o, H0.g⟩ as := ⟨fun b x e => (show upd H0.h p o b = some x by rw [upd_ne (ne_of_none e h0)]; exact e), rfl, List.prefix_rfl⟩
  refine ⟨⟨fun b x e => ?_, w.nd, w.len, fun a ha => ?_, fun n a x ha hx => ?_, fun q hq => ?_⟩, l⟩
  · have e : upd H0.h p o b = some x := e
    by_cases hb : b = p
    · subst hb
      rw [upd_same] at e ⊢
      exact e
    · rw [upd_ne hb] at e ⊢
      exact w.ex b x e
  · obtain ⟨u, hu⟩ := w.liv a ha
    exact ⟨u, by rw [upd_ne (ne_of_none hu hp)]; exact hu⟩
  · rcases w.own n a x ha hx with z | ⟨z, ho, h1, h2⟩
    · exact .inl z
    · have hap : a ≠ p := ne_of_none h1 hp
      exact .inr ⟨(show upd H0.h p o a = none by rw [upd_ne hap]; exact z), ho, by rw [upd_ne hap]; exact h1, h2.mono l⟩
  · obtain ⟨h1, h2, h3⟩ := w.gho q hq
    have hqp : q.1 ≠ p := ne_of_none h3 hp
    exact ⟨(show upd H0.h p o q.1 = none by rw [upd_ne hqp]; exact h1), h2, by rw [upd_ne hqp]; exact h3⟩
/-- a new tuple (frozen list) -/
theorem KE.newT {C : Cy} {H0 : Hb} {H : Hp} {as : List Addr} {st : Sto} {Q : VK} {ds : List D} {vs : List V} (k : KE C H0 as st (.tup ds) Q) (w : WR C H0 as st H) (r : Reps C H0 as ds vs) : ∀ p, H p = none → Q (.ref p) (upd H p (.tup vs)) := fun p hp => by
  obtain ⟨w', l⟩ := w.grow (o := .tup vs) hp
  exact k (.ref p) _ as _ l w' ⟨p, vs, rfl, SqT.of upd_same, r.mono l⟩
theorem KE.newL {C : Cy} {H0 : Hb} {H : Hp} {as : List Addr} {st : Sto} {Q : VK} {ds : List D} {vs : List V} (k : KE C H0 as st (.lst ds) Q) (w : WR C H0 as st H) (r : Reps C H0 as ds vs) : ∀ p, H p = none → Q (.ref p) (upd H p (.lst vs)) := fun p hp => by
  obtain ⟨w', l⟩ := w.grow (o := .lst vs) hp
  exact k (.ref p) _ as _ l w' ⟨p, vs, rfl, upd_same, r.mono l⟩
/-- a new mutable object -/
theorem WR.push {C : Cy} {H0 : Hb} {H : Hp} {as : List Addr} {st : Sto} (w : WR C H0 as st H) {p : Addr} {o : SO} {ho : HO} (hp : H p = none) (r : RepO C H0 as o ho) : WR C H0 (as ++ [p]) (st ++ [o]) (upd H p ho) ∧ Le H0 as H0 (as ++ [p]) := by
  have h0 : H0.h p = none := w.ex.free hp
  have l : Le H0 as H0 (as ++ [p]) := ⟨Same.refl H0.h, rfl, List.prefix_append _ _⟩
  have np : p ∉ as := fun z => by
    obtain ⟨u, hu⟩ := w.liv p z
    rw [hp] at hu
    cases hu
  refine ⟨⟨fun b x e => ?_, ?_, ?_, fun a ha => ?_, fun n a x ha hx => ?_, fun q hq => ?_⟩, l⟩
  · have hb : b ≠ p := ne_of_none e h0
    rw [upd_ne hb]
    exact w.ex b x e
  · refine List.nodup_append.mpr ⟨w.nd, by simp, fun a ha b hb => ?_⟩
    have e : b = p := by simpa using hb
    subst e
    exact fun z => np (z ▸ ha)
  · simp [w.len]
  · rcases List.mem_append.mp ha with ha | ha
    · obtain ⟨u, hu⟩ := w.liv a ha
      exact ⟨u, by rw [upd_ne (ne_of_none hu hp)]; exact hu⟩
    · have e : a = p := by simpa using ha
      subst e
      exact ⟨ho, upd_same⟩
  · by_cases hn : n < as.length
    · rw [List.getElem?_append_left hn] at ha
      rw [List.getElem?_append_left (by rw [← w.len]; exact hn)] at hx
      rcases w.own n a x ha hx with z | ⟨z, u, h1, h2⟩
      · exact .inl z
      · have hap : a ≠ p := ne_of_none h1 hp
        exact .inr ⟨z, u, by rw [upd_ne hap]; exact h1, h2.mono l⟩
    · have hn' : n = as.length := by
        have := (List.getElem?_eq_some_iff.mp ha).1
        rw [List.length_append] at this
        simp at this
        omega
      subst hn'
      rw [List.getElem?_append_right (Nat.le_refl _)] at ha
      rw [w.len, List.getElem?_append_right (Nat.le_refl _)] at hx
      simp at ha hx
      subst ha hx
      exact .inr ⟨h0, ho, upd_same, r.mono l⟩
  · obtain ⟨h1, h2, h3⟩ := w.gho q hq
    have hqp : q.1 ≠ p := ne_of_none h3 hp
    exact ⟨h1, fun z => (List.mem_append.mp z).elim h2 fun z => hqp (by simpa using z), by rw [upd_ne hqp]; exact h3⟩
theorem KE.newM {C : Cy} {H0 : Hb} {H : Hp} {as : List Addr} {st : Sto} {Q : VK} {ds : List D} {vs : List V} (k : KE C H0 as (st ++ [.lst ds]) (.loc st.length) Q) (w : WR C H0 as st H) (r : Reps C H0 as ds vs) : ∀ p, H p = none → Q (.ref p) (upd H p (.lst vs)) := fun p hp => by
  obtain ⟨w', l⟩ := w.push (o := .lst ds) hp ⟨vs, rfl, r⟩
  exact k (.ref p) _ _ _ l w' ⟨p, by rw [← w.len]; simp, rfl⟩
/-- a mutable object is changed -/
theorem WR.put {C : Cy} {H0 : Hb} {H : Hp} {as : List Addr} {st : Sto} (w : WR C H0 as st H) {n : Nat} {a : Addr} {o : SO} {ho : HO} (ha : as[n]? = some a) (hn : H0.h a = none) (r : RepO C H0 as o ho) : WR C H0 as (st.set n o) (upd H a ho) := by
  refine ⟨fun b x e => ?_, w.nd, by rw [List.length_set, w.len], fun b hb => ?_, fun m b x hb hx => ?_, fun q hq => ?_⟩
  · rw [upd_ne (ne_of_none e hn)]
    exact w.ex b x e
  · by_cases e : b = a
    · subst e
      exact ⟨ho, upd_same⟩
    · rw [upd_ne e]
      exact w.liv b hb
  · by_cases e : m = n
    · subst e
      rw [ha] at hb
      cases hb
      have hl : m < st.length := by
        have := (List.getElem?_eq_some_iff.mp ha).1
        rw [w.len] at this
        exact this
      rw [List.getElem?_set_self hl] at hx
      cases hx
      exact .inr ⟨hn, ho, upd_same, r⟩
    · rw [List.getElem?_set_ne (Ne.symm e)] at hx
      have hba : b ≠ a := fun z => by
        subst z
        obtain ⟨h1, e1⟩ := List.getElem?_eq_some_iff.mp ha
        obtain ⟨h2, e2⟩ := List.getElem?_eq_some_iff.mp hb
        exact e ((List.getElem_inj w.nd).mp (e2.trans e1.symm))
      rcases w.own m b x hb hx with z | ⟨z, u, h1, h2⟩
      · exact .inl z
      · exact .inr ⟨z, u, by rw [upd_ne hba]; exact h1, h2⟩
  · obtain ⟨h1, h2, h3⟩ := w.gho q hq
    have hqa : q.1 ≠ a := fun z => h2 (by rw [z]; exact List.mem_of_getElem? ha)
    exact ⟨h1, h2, by rw [upd_ne hqa]; exact h3⟩
end My


namespace My
open PySem PySem.Spec PyProof.Rows L2

/-! ### looking into sequences -/
def look : D → Sto → Option (List D)
  | .tup ds, _ => some ds
  | .lst ds, _ => some ds
  | .fro ds, _ => some ds
  | .loc n, st => match st[n]? with
    | some (.lst ds) => some ds
    | _ => none
  | _, _ => none
def lookL : D → Sto → Option (List D)
  | .lst ds, _ => some ds
  | .loc n, st => match st[n]? with
    | some (.lst ds) => some ds
    | _ => none
  | _, _ => none
/-- no mutable object stands in it at the top -/
def noLoc : D → Bool
  | .loc _ => false
  | _ => true
/-- a list is made: frozen, or mutable -/
def alloc (mu : Bool) (ds : List D) (st : Sto) : D × Sto := if mu then (.loc st.length, st ++ [.lst ds]) else (.lst ds, st)

section
variable {C : Cy} {H0 : Hb} {H : Hp} {as : List Addr} {st st' : Sto} {Q : VK}
theorem WR.loc (w : WR C H0 as st H) {n : Nat} {ds : List D} (h : st[n]? = some (.lst ds)) : ∃ a vs, as[n]? = some a ∧ H0.h a = none ∧ H a = some (.lst vs) ∧ Reps C H0 as ds vs := by
  have hl : n < as.length := by rw [w.len]; exact (List.getElem?_eq_some_iff.mp h).1
  rcases w.own n _ _ (List.getElem?_eq_getElem hl) h with z | ⟨z, ho, h1, vs, rfl, h2⟩
  · cases z
  · exact ⟨as[n], vs, List.getElem?_eq_getElem hl, z, h1, h2⟩
theorem look_seq (w : WR C H0 as st H) {d : D} {x : V} {ds : List D} (r : Rep C H0 as d x) (h : look d st = some ds) : ∃ a vs, x = .ref a ∧ (SqL C.K H a vs ∨ SqT C.K H a vs) ∧ Reps C H0 as ds vs := by
  cases d with
  | tup es =>
    cases h
    obtain ⟨a, vs, e, hs, hr⟩ := r
    exact ⟨a, vs, e, .inr (same_seqT w.ex hs), hr⟩
  | lst es =>
    cases h
    obtain ⟨a, vs, e, hs, hr⟩ := r
    exact ⟨a, vs, e, .inl (SqL.of (w.ex _ _ hs)), hr⟩
  | fro es =>
    cases h
    obtain ⟨a, vs, e, hs, hr⟩ := r
    exact ⟨a, vs, e, .inl (w.ex.seq hs), hr⟩
  | loc n =>
    obtain ⟨a, ha, e⟩ := r
    unfold look at h
    dsimp only at h
    split at h
    · rename_i es he
      cases h
      obtain ⟨a', vs, ha', _, h1, h2⟩ := w.loc he
      rw [ha] at ha'
      cases ha'
      exact ⟨a, vs, e, .inl (SqL.of h1), h2⟩
    · cases h
  | _ => cases h
theorem lookL_seq (w : WR C H0 as st H) {d : D} {x : V} {ds : List D} (r : Rep C H0 as d x) (h : lookL d st = some ds) : ∃ a vs, x = .ref a ∧ H a = some (.lst vs) ∧ Reps C H0 as ds vs := by
  cases d with
  | lst es =>
    cases h
    obtain ⟨a, vs, e, hs, hr⟩ := r
    exact ⟨a, vs, e, w.ex _ _ hs, hr⟩
  | loc n =>
    obtain ⟨a, ha, e⟩ := r
    unfold lookL at h
    dsimp only at h
    split at h
    · rename_i es he
      cases h
      obtain ⟨a', vs, ha', _, h1, h2⟩ := w.loc he
      rw [ha] at ha'
      cases ha'
      exact ⟨a, vs, e, h1, h2⟩
    · cases h
  | _ => cases h
theorem KE.newA {mu : Bool} {ds : List D} {vs : List V} {d : D} (k : KE C H0 as st' d Q) (h : alloc mu ds st = (d, st')) (w : WR C H0 as st H) (r : Reps C H0 as ds vs) : ∀ p, H p = none → Q (.ref p) (upd H p (.lst vs)) := by
  cases mu with
  | true =>
    cases h
    exact KE.newM k w r
  | false =>
    cases h
    exact KE.newL k w r
theorem KE.val {d : D} {v : V} (k : KE C H0 as st d Q) (w : WR C H0 as st H) (r : Rep C H0 as d v) : Q v H := k v H0 as H Le.refl w r
end

/-! ### PyData of a value -/
mutual
def toPy : D → Option PyData
  | .non => some .none
  | .bl b => some (.bool b)
  | .int i => some (.int i)
  | .str x => some (.str x)
  | .tup ds => (toPys ds).map .tuple
  | .lst ds => (toPys ds).map .list
  | .fro ds => (toPys ds).map .list
  | _ => none
def toPys : List D → Option (List PyData)
  | [] => some []
  | d :: ds => (toPy d).bind fun p => (toPys ds).map (p :: ·)
end
section
variable {C : Cy} {H0 : Hb} {H : Hp} {as : List Addr}
mutual
theorem toPy_dp (ex : Same H0.h H) : ∀ {d : D} {v : V} {p : PyData}, toPy d = some p → Rep C H0 as d v → Dp C.K H v p
  | .non, _, _, h, r => by
    cases h
    have r : _ = V.non := r
    subst r
    exact .non
  | .bl b, _, _, h, r => by
    cases h
    have r : _ = V.bl b := r
    subst r
    exact .bl b
  | .int b, _, _, h, r => by
    cases h
    have r : _ = V.int b := r
    subst r
    exact .int b
  | .str b, _, _, h, r => by
    cases h
    have r : _ = V.str b := r
    subst r
    exact .str b
  | .tup ds, _, _, h, r => by
    unfold toPy at h
    obtain ⟨ps, hp, rfl⟩ := Option.map_eq_some_iff.mp h
    obtain ⟨a, vs, rfl, hs, hr⟩ := r
    exact .tup (same_seqT ex hs) (toPys_dp ex hp hr)
  | .lst ds, _, _, h, r => by
    unfold toPy at h
    obtain ⟨ps, hp, rfl⟩ := Option.map_eq_some_iff.mp h
    obtain ⟨a, vs, rfl, hs, hr⟩ := r
    exact .lst (SqL.of (ex _ _ hs)) (toPys_dp ex hp hr)
  | .fro ds, _, _, h, r => by
    unfold toPy at h
    obtain ⟨ps, hp, rfl⟩ := Option.map_eq_some_iff.mp h
    obtain ⟨a, vs, rfl, hs, hr⟩ := r
    exact .lst (ex.seq hs) (toPys_dp ex hp hr)
  | .ty _, _, _, h, _ => by cases h
  | .adr _, _, _, h, _ => by cases h
  | .loc _, _, _, h, _ => by cases h
  | .fdk _ _ _, _, _, h, _ => by cases h
  | .set _, _, _, h, _ => by cases h
  | .fn _, _, _, h, _ => by cases h
theorem toPys_dp (ex : Same H0.h H) : ∀ {ds : List D} {vs : List V} {ps : List PyData}, toPys ds = some ps → Reps C H0 as ds vs → DpAll C.K H vs ps
  | [], _, _, h, r => by
    cases h
    have r : _ = [] := r
    subst r
    exact .nil
  | d :: ds, _, _, h, r => by
    unfold toPys at h
    obtain ⟨p, hp, h⟩ := Option.bind_eq_some_iff.mp h
    obtain ⟨ps, hps, rfl⟩ := Option.map_eq_some_iff.mp h
    obtain ⟨v, r', rfl, h1, h2⟩ := r
    exact .cons (toPy_dp ex hp h1) (toPys_dp ex hps h2)
end
end
/-- data of a value, a mutable list's too -/
def dat (d : D) (st : Sto) : Option PyData := match d with
  | .loc n => match st[n]? with
    | some (.lst ds) => (toPys ds).map .list
    | _ => none
  | d => toPy d
theorem dat_dp {C : Cy} {H0 : Hb} {H : Hp} {as : List Addr} {st : Sto} (w : WR C H0 as st H) {d : D} {v : V} {p : PyData} (h : dat d st = some p) (r : Rep C H0 as d v) : Dp C.K H v p := by
  cases d with
  | loc n =>
    unfold dat at h
    dsimp only at h
    split at h
    · rename_i ds he
      obtain ⟨ps, hp, rfl⟩ := Option.map_eq_some_iff.mp h
      obtain ⟨a, vs, ha, _, h1, h2⟩ := w.loc he
      obtain ⟨a', ha', rfl⟩ := r
      rw [ha] at ha'
      cases ha'
      exact .lst (SqL.of h1) (toPys_dp w.ex hp h2)
    · cases h
  | _ => exact toPy_dp w.ex h r

/-! ### operators -/
def fAdd (mu : Bool) : D → D → Sto → Option (D × Sto)
  | .int i, .int j, st => some (.int (i + j), st)
  | .str x, .str y, st => if x.length + y.length ≤ sizeLine then some (.str (x ++ y), st) else none
  | .tup xs, .tup ys, st => if xs.length + ys.length ≤ sizeLine then some (.tup (xs ++ ys), st) else none
  | a, b, st => (lookL a st).bind fun xs => (lookL b st).bind fun ys => if xs.length + ys.length ≤ sizeLine then some (alloc mu (xs ++ ys) st) else none
def fSub : D → D → Sto → Option (D × Sto)
  | .int i, .int j, st => some (.int (i - j), st)
  | _, _, _ => none
def fI (c : Int → Int → Bool) (g : Int → Int → Int) : D → D → Sto → Option (D × Sto)
  | .int i, .int j, st => if c i j = true then some (.int (g i j), st) else none
  | _, _, _ => none
def fB (g : Int → Int → Bool) : D → D → Sto → Option (D × Sto)
  | .int i, .int j, st => some (.bl (g i j), st)
  | _, _, _ => none
/-- not great; told so that no check reckons it out (Nat.ble by natAbs) -/
def small (i : Int) : Bool := Nat.ble i.natAbs 1152921504606846976
theorem small_le {i : Int} (h : small i = true) : -1152921504606846976 ≤ i ∧ i ≤ 1152921504606846976 := by
  have := Nat.le_of_ble_eq_true h
  omega
theorem small_of {i : Int} (h : -1152921504606846976 ≤ i ∧ i ≤ 1152921504606846976) : small i = true := Nat.ble_eq_true_of_le (by omega)
def cMul (i j : Int) : Bool := small i || small j
def cDiv (_ j : Int) : Bool := decide (0 < j) && decide (j.natAbs.log2 < 9000)
def cMod (_ j : Int) : Bool := decide (0 < j)
def cPow (i j : Int) : Bool := decide (0 ≤ j) && Nat.ble j.natAbs 1000000 && small i
theorem cPow_ok {i j : Int} (h : cPow i j = true) : 0 ≤ j ∧ j ≤ 1000000 ∧ i.natAbs < 2 ^ 64 := by
  unfold cPow at h
  simp only [Bool.and_eq_true, decide_eq_true_eq] at h
  have a := Nat.le_of_ble_eq_true h.1.2
  have b := Nat.le_of_ble_eq_true h.2
  refine ⟨h.1.1, by omega, Nat.lt_of_le_of_lt b (by decide)⟩
def fMulI := fI cMul fun i j => i * j
def fDiv := fI cDiv fun i j => i / j
def fMod := fI cMod fun i j => i % j
def fPow := fI cPow fun i j => i ^ j.toNat
def fShl := fI cPow fun i j => i * 2 ^ j.toNat
def fMul (mu : Bool) : D → D → Sto → Option (D × Sto)
  | .int i, .int j, st => if cMul i j = true then some (.int (i * j), st) else none
  | a, .int k, st => (lookL a st).bind fun xs => if small k = true ∧ xs.length * k.toNat ≤ sizeLine then some (alloc mu (List.replicate k.toNat xs).flatten st) else none
  | _, _, _ => none
def fLt : D → D → Sto → Option (D × Sto)
  | .int i, .int j, st => some (.bl (decide (i < j)), st)
  | .str x, .str y, st => some (.bl (decide (x.cps.toList < y.cps.toList)), st)
  | _, _, _ => none
def fLe := fB fun i j => decide (i ≤ j)
def fGt := fB fun i j => decide (j < i)
def fGe := fB fun i j => decide (j ≤ i)
/-- == -/
def eqD (a b : D) (st : Sto) : Option Bool := match a, b with
  | .int i, .int j => some (decide (i = j))
  | .str x, .str y => some (decide (x = y))
  | .bl x, .bl y => some (decide (x = y))
  | a, b => (dat a st).bind fun p => (dat b st).bind fun q => if SeqAt.shaped p = true ∧ SeqAt.shaped q = true then some (PyData.eqv p q) else none
def fEq (a b : D) (st : Sto) : Option (D × Sto) := (eqD a b st).map fun r => (.bl r, st)
def fNe (a b : D) (st : Sto) : Option (D × Sto) := (eqD a b st).map fun r => (.bl (!r), st)
/-- in -/
def flatD : D → Bool
  | .non => true
  | .bl _ => true
  | .int _ => true
  | .str _ => true
  | _ => false
def eqF : D → D → Bool
  | .non, .non => true
  | .bl a, .bl b => a == b
  | .bl a, .int b => (if a then 1 else 0) == b
  | .int a, .bl b => a == (if b then 1 else 0)
  | .int a, .int b => a == b
  | .str a, .str b => a == b
  | _, _ => false
def inD (x : D) (ds : List D) : Bool := ds.any fun y => eqF y x
def fIn (neg : Bool) (a b : D) (st : Sto) : Option (D × Sto) := (look b st).bind fun ds => if flatD a = true ∧ ds.all flatD = true then some (.bl (if neg then !inD a ds else inD a ds), st) else none
/-- is None -/
def isNon : D → Bool
  | .non => true
  | _ => false
def fIsN (neg : Bool) (a b : D) (st : Sto) : Option (D × Sto) := match b with
  | .non => some (.bl (if neg then !isNon a else isNon a), st)
  | _ => none
def fNeg : D → Sto → Option (D × Sto)
  | .int i, st => some (.int (-i), st)
  | _, _ => none
/-- a[i] -/
def fIx (a b : D) (st : Sto) : Option (D × Sto) := match b with
  | .int i => (look a st).bind fun ds => (atI ds i).map (·, st)
  | _ => none

section
variable {C : Cy} {X : Cx}
theorem rep_int {H0 : Hb} {as : List Addr} {i : Int} {x : V} (r : Rep C H0 as (.int i) x) : x = .int i := r
theorem rep_str {H0 : Hb} {as : List Addr} {i : Str} {x : V} (r : Rep C H0 as (.str i) x) : x = .str i := r
theorem rep_bl {H0 : Hb} {as : List Addr} {i : Bool} {x : V} (r : Rep C H0 as (.bl i) x) : x = .bl i := r
theorem Rep.notFlat_tup {H0 : Hb} {as : List Addr} {ds : List D} {x : V} (r : Rep C H0 as (.tup ds) x) : ∃ a, x = .ref a := let ⟨a, _, e, _⟩ := r; ⟨a, e⟩

theorem ok_fI {c : Int → Int → Bool} {P : Int → Int → Prop} {g : Int → Int → Int} (h : ∀ i j, c i j = true → P i j) : Ok2 C (rI P fun i j => .int (g i j)) (fI c g) := by
  intro H0 as st H dx dy x y d st' Q w rx ry hf k
  cases dx with
  | int i =>
    cases dy with
    | int j =>
      cases rep_int rx
      cases rep_int ry
      unfold fI at hf
      dsimp only at hf
      split at hf
      · rename_i hc
        cases hf
        exact ⟨i, j, rfl, rfl, h _ _ hc, k.val w rfl⟩
      · cases hf
    | _ => cases hf
  | _ => cases hf
theorem ok_fB {g : Int → Int → Bool} : Ok2 C (rI0 fun i j => .bl (g i j)) (fB g) := by
  intro H0 as st H dx dy x y d st' Q w rx ry hf k
  cases dx with
  | int i =>
    cases dy with
    | int j =>
      cases rep_int rx
      cases rep_int ry
      cases hf
      exact ⟨i, j, rfl, rfl, k.val w rfl⟩
    | _ => cases hf
  | _ => cases hf
theorem ok_sub : Ok2 C (rI0 fun i j => .int (i - j)) fSub := by
  intro H0 as st H dx dy x y d st' Q w rx ry hf k
  cases dx with
  | int i =>
    cases dy with
    | int j =>
      cases rep_int rx
      cases rep_int ry
      cases hf
      exact ⟨i, j, rfl, rfl, k.val w rfl⟩
    | _ => cases hf
  | _ => cases hf
def rAddA (K : PySem.W.Frag) : R2 := fun x y H Q => (rI0 fun i j => .int (i + j)) x y H Q ∨ (∃ i j, x = .str i ∧ y = .str j ∧ i.length + j.length ≤ sizeLine ∧ Q (.str (i ++ j)) H) ∨ rCatA K x y H Q ∨ rCat x y H Q
theorem op_addA : OpR X (binaryOp .Add) (rAddA X.K) := OpR.or op_add (OpR.or op_add_str (OpR.or op_catA op_cat))
theorem catL {mu : Bool} {H0 : Hb} {as : List Addr} {st st' : Sto} {H : Hp} {dx dy d : D} {x y : V} {Q : VK} (w : WR C H0 as st H) (rx : Rep C H0 as dx x) (ry : Rep C H0 as dy y)
    (hf : ((lookL dx st).bind fun xs => (lookL dy st).bind fun ys => if xs.length + ys.length ≤ sizeLine then some (alloc mu (xs ++ ys) st) else none) = some (d, st')) (k : KE C H0 as st' d Q) : rCat x y H Q := by
  obtain ⟨xs, hx, hf⟩ := Option.bind_eq_some_iff.mp hf
  obtain ⟨ys, hy, hf⟩ := Option.bind_eq_some_iff.mp hf
  obtain ⟨a, vs, rfl, ha, r1⟩ := lookL_seq w rx hx
  obtain ⟨b, us, rfl, hb, r2⟩ := lookL_seq w ry hy
  split at hf
  · rename_i hl
    have hf := Option.some.inj hf
    exact ⟨a, b, vs, us, rfl, rfl, ha, hb, by rw [← r1.length, ← r2.length]; exact hl, k.newA hf w (r1.append r2)⟩
  · cases hf
theorem ok_add {mu : Bool} : Ok2 C (rAddA C.K) (fAdd mu) := by
  intro H0 as st H dx dy x y d st' Q w rx ry hf k
  cases dx with
  | int i =>
    cases dy with
    | int j =>
      cases rep_int rx
      cases rep_int ry
      cases hf
      exact .inl ⟨i, j, rfl, rfl, k.val w rfl⟩
    | _ => cases hf
  | str i =>
    cases dy with
    | str j =>
      cases rep_str rx
      cases rep_str ry
      unfold fAdd at hf
      dsimp only at hf
      split at hf
      · rename_i hl
        cases hf
        exact .inr (.inl ⟨i, j, rfl, rfl, hl, k.val w rfl⟩)
      · cases hf
    | _ => cases hf
  | tup xs =>
    cases dy with
    | tup ys =>
      unfold fAdd at hf
      dsimp only at hf
      split at hf
      · rename_i hl
        cases hf
        obtain ⟨a, vs, rfl, ha, r1⟩ := rx
        obtain ⟨b, us, rfl, hb, r2⟩ := ry
        refine .inr (.inr (.inl ⟨a, b, vs, us, rfl, rfl, same_seqT w.ex ha, same_seqT w.ex hb, by rw [← r1.length, ← r2.length]; exact hl, fun e => ?_, fun _ e => ?_, fun _ _ => k.newT w (r1.append r2)⟩))
        · subst e
          have e : xs = [] := List.length_eq_zero_iff.mp r1.length
          subst e
          exact k.val w ⟨b, us, rfl, hb, r2⟩
        · subst e
          have e : ys = [] := List.length_eq_zero_iff.mp r2.length
          subst e
          rw [List.append_nil] at k
          exact k.val w ⟨a, vs, rfl, ha, r1⟩
      · cases hf
    | _ => cases hf
  | lst xs => exact .inr (.inr (.inr (catL w rx ry hf k)))
  | loc n => exact .inr (.inr (.inr (catL w rx ry hf k)))
  | _ => cases hf
def rMulA : R2 := fun x y H Q => (rI CMul fun i j => .int (i * j)) x y H Q ∨ rRep x y H Q
theorem op_mulA : OpR X (binaryOp .Mult) rMulA := OpR.or op_mul op_rep
theorem Reps.flat {H0 : Hb} {as : List Addr} {ds : List D} {vs : List V} (r : Reps C H0 as ds vs) : ∀ n, Reps C H0 as (List.replicate n ds).flatten (List.replicate n vs).flatten
  | 0 => rfl
  | n + 1 => by
    rw [List.replicate_succ, List.replicate_succ, List.flatten_cons, List.flatten_cons]
    exact r.append (Reps.flat r n)
theorem ok_mul {mu : Bool} : Ok2 C rMulA (fMul mu) := by
  intro H0 as st H dx dy x y d st' Q w rx ry hf k
  have lists : ∀ i : Int, dy = .int i → ((lookL dx st).bind fun xs => if small i = true ∧ xs.length * i.toNat ≤ sizeLine then some (alloc mu (List.replicate i.toNat xs).flatten st) else none) = some (d, st') → rMulA x y H Q := by
    intro i e hf'
    clear hf
    have hf := hf'
    subst e
    cases rep_int ry
    obtain ⟨xs, hx, hf⟩ := Option.bind_eq_some_iff.mp hf
    obtain ⟨a, vs, rfl, ha, r1⟩ := lookL_seq w rx hx
    split at hf
    · rename_i hl
      have hf := Option.some.inj hf
      have hs := small_le hl.1
      have e63 : (2 : Int) ^ 63 = 9223372036854775808 := by decide
      exact .inr ⟨a, i, vs, rfl, rfl, ha, by omega, by omega, by rw [← r1.length]; exact hl.2, k.newA hf w (r1.flat _)⟩
    · cases hf
  cases dy with
  | int j =>
    cases dx with
    | int i =>
      cases rep_int rx
      cases rep_int ry
      unfold fMul at hf
      dsimp only at hf
      split at hf
      · rename_i hc
        cases hf
        exact .inl ⟨i, j, rfl, rfl, by
          have e64 : (2 : Int) ^ 64 = 18446744073709551616 := by decide
          rcases Bool.or_eq_true _ _ ▸ hc with h | h
          · have := small_le h
            exact .inl (by omega)
          · have := small_le h
            exact .inr (by omega), k.val w rfl⟩
      · cases hf
    | lst xs => exact lists j rfl hf
    | loc n => exact lists j rfl hf
    | _ => cases hf
  | _ => cases dx <;> cases hf
def rLtA : R2 := fun x y H Q => (rI0 fun i j => .bl (decide (i < j))) x y H Q ∨ (∃ i j, x = .str i ∧ y = .str j ∧ Q (.bl (decide (i.cps.toList < j.cps.toList))) H)
theorem op_ltA : OpR X (compareOp .Lt) rLtA := OpR.or op_lt op_lt_str
theorem ok_lt : Ok2 C rLtA fLt := by
  intro H0 as st H dx dy x y d st' Q w rx ry hf k
  cases dx with
  | int i =>
    cases dy with
    | int j =>
      cases rep_int rx
      cases rep_int ry
      cases hf
      exact .inl ⟨i, j, rfl, rfl, k.val w rfl⟩
    | _ => cases hf
  | str i =>
    cases dy with
    | str j =>
      cases rep_str rx
      cases rep_str ry
      cases hf
      exact .inr ⟨i, j, rfl, rfl, k.val w rfl⟩
    | _ => cases hf
  | _ => cases hf
/-! == -/
def rEqA (K : PySem.W.Frag) : R2 := fun x y H Q => rEq x y H Q ∨ rEqD K x y H Q
def rNeA (K : PySem.W.Frag) : R2 := fun x y H Q => rNe x y H Q ∨ rNeD K x y H Q
theorem op_eqA (hu : X.A.units + 64 < cLine) : OpR X (compareOp .Eq) (rEqA X.K) := OpR.or op_eq (op_eqD hu)
theorem op_neA (hu : X.A.units + 64 < cLine) : OpR X (compareOp .NotEq) (rNeA X.K) := OpR.or op_ne (op_neD hu)
theorem eqD_ok {H0 : Hb} {as : List Addr} {st : Sto} {H : Hp} {dx dy : D} {x y : V} {b : Bool} (w : WR C H0 as st H) (rx : Rep C H0 as dx x) (ry : Rep C H0 as dy y) (h : eqD dx dy st = some b) :
    (scal x y = true ∧ decide (x = y) = b) ∨ ∃ d e, Dp C.K H x d ∧ Dp C.K H y e ∧ SeqAt.shaped d = true ∧ SeqAt.shaped e = true ∧ PyData.eqv d e = b := by
  have gen : ((dat dx st).bind fun p => (dat dy st).bind fun q => if SeqAt.shaped p = true ∧ SeqAt.shaped q = true then some (PyData.eqv p q) else none) = some b → ∃ d e, Dp C.K H x d ∧ Dp C.K H y e ∧ SeqAt.shaped d = true ∧ SeqAt.shaped e = true ∧ PyData.eqv d e = b := by
    intro h
    obtain ⟨p, hp, h⟩ := Option.bind_eq_some_iff.mp h
    obtain ⟨q, hq, h⟩ := Option.bind_eq_some_iff.mp h
    split at h
    · rename_i hs
      exact ⟨p, q, dat_dp w hp rx, dat_dp w hq ry, hs.1, hs.2, Option.some.inj h⟩
    · cases h
  unfold eqD at h
  split at h
  · rename_i i j
    cases rep_int rx
    cases rep_int ry
    refine .inl ⟨rfl, ?_⟩
    rw [← Option.some.inj h, dec_int]
    rfl
  · cases rep_str rx
    cases rep_str ry
    refine .inl ⟨rfl, ?_⟩
    rw [← Option.some.inj h, dec_str]
    exact Bool.beq_eq_decide_eq _ _
  · cases rep_bl rx
    cases rep_bl ry
    refine .inl ⟨rfl, ?_⟩
    rw [← Option.some.inj h, dec_bl]
    exact Bool.beq_eq_decide_eq _ _
  · exact .inr (gen h)
theorem ok_eq : Ok2 C (rEqA C.K) fEq := by
  intro H0 as st H dx dy x y d st' Q w rx ry hf k
  obtain ⟨b, hb, e⟩ := Option.map_eq_some_iff.mp hf
  cases e
  rcases eqD_ok w rx ry hb with ⟨h1, h2⟩ | ⟨p, q, h1, h2, h3, h4, h5⟩
  · exact .inl ⟨h1, k.val w (by rw [h2]; rfl)⟩
  · exact .inr ⟨p, q, h1, h2, h3, h4, k.val w (by rw [h5]; rfl)⟩
theorem ok_ne : Ok2 C (rNeA C.K) fNe := by
  intro H0 as st H dx dy x y d st' Q w rx ry hf k
  obtain ⟨b, hb, e⟩ := Option.map_eq_some_iff.mp hf
  cases e
  rcases eqD_ok w rx ry hb with ⟨h1, h2⟩ | ⟨p, q, h1, h2, h3, h4, h5⟩
  · exact .inl ⟨h1, k.val w (by rw [h2]; rfl)⟩
  · exact .inr ⟨p, q, h1, h2, h3, h4, k.val w (by rw [h5]; rfl)⟩
/-! in -/
theorem flat_ok {H0 : Hb} {as : List Addr} {d : D} {x : V} (r : Rep C H0 as d x) (h : flatD d = true) : flatV x = true ∧ ∀ e y, Rep C H0 as e y → flatD e = true → eqV y x = eqF e d := by
  cases d with
  | non => cases (show x = .non from r); exact ⟨rfl, fun e y re he => by cases e <;> first | (cases he; done) | (cases (show y = _ from re); rfl)⟩
  | bl b => cases (show x = .bl b from r); exact ⟨rfl, fun e y re he => by cases e <;> first | (cases he; done) | (cases (show y = _ from re); rfl)⟩
  | int b => cases (show x = .int b from r); exact ⟨rfl, fun e y re he => by cases e <;> first | (cases he; done) | (cases (show y = _ from re); rfl)⟩
  | str b => cases (show x = .str b from r); exact ⟨rfl, fun e y re he => by cases e <;> first | (cases he; done) | (cases (show y = _ from re); rfl)⟩
  | _ => cases h
theorem inD_ok {H0 : Hb} {as : List Addr} {d : D} {x : V} (r : Rep C H0 as d x) (h : flatD d = true) : ∀ {ds : List D} {vs : List V}, Reps C H0 as ds vs → ds.all flatD = true → vs.all flatV = true ∧ inV x vs = inD d ds
  | [], vs, hr, _ => by
    cases (show vs = [] from hr)
    exact ⟨rfl, rfl⟩
  | e :: ds, vs, hr, ha => by
    obtain ⟨v, r', rfl, h1, h2⟩ := hr
    rw [List.all_cons, Bool.and_eq_true] at ha
    obtain ⟨i1, i2⟩ := inD_ok r h h2 ha.2
    refine ⟨by rw [List.all_cons, (flat_ok h1 ha.1).1, i1]; rfl, ?_⟩
    unfold inV inD at *
    rw [List.any_cons, List.any_cons, i2, (flat_ok r h).2 e v h1 ha.1]
theorem ok_in {neg : Bool} : Ok2 C (rIn C.K neg) (fIn neg) := by
  intro H0 as st H dx dy x y d st' Q w rx ry hf k
  obtain ⟨ds, hd, hf⟩ := Option.bind_eq_some_iff.mp hf
  split at hf
  · rename_i hc
    cases hf
    obtain ⟨a, vs, rfl, hs, hr⟩ := look_seq w ry hd
    obtain ⟨h1, h2⟩ := inD_ok rx hc.1 hr hc.2
    exact ⟨a, vs, rfl, hs, (flat_ok rx hc.1).1, h1, k.val w (by rw [h2]; cases neg <;> rfl)⟩
  · cases hf
theorem isNon_ok {H0 : Hb} {as : List Addr} {d : D} {x : V} (r : Rep C H0 as d x) : decide (x = .non) = isNon d := by
  cases d with
  | non => cases (show x = .non from r); rfl
  | bl b => cases (show x = .bl b from r); rfl
  | int b => cases (show x = .int b from r); rfl
  | str b => cases (show x = .str b from r); rfl
  | ty b => cases (show x = .ty b from r); rfl
  | adr b => cases (show x = .ref b from r); rfl
  | tup ds => obtain ⟨a, _, rfl, _⟩ := r; rfl
  | lst ds => obtain ⟨a, _, rfl, _⟩ := r; rfl
  | fro ds => obtain ⟨a, _, rfl, _⟩ := r; rfl
  | loc n => obtain ⟨a, _, rfl⟩ := r; rfl
  | fdk n ks ds => obtain ⟨a, _, _, _, rfl, _⟩ := r; rfl
  | set ns => obtain ⟨a, _, _, rfl, _⟩ := r; rfl
  | fn x => obtain ⟨a, rfl, _⟩ := r; rfl
theorem ok_isN : Ok2 C (fun x y H Q => y = .non ∧ Q (.bl (decide (x = .non))) H) (fIsN false) := by
  intro H0 as st H dx dy x y d st' Q w rx ry hf k
  unfold fIsN at hf
  split at hf
  · cases hf
    exact ⟨ry, k.val w (by rw [isNon_ok rx]; rfl)⟩
  · cases hf
theorem ok_notN : Ok2 C (fun x y H Q => y = .non ∧ Q (.bl (!decide (x = .non))) H) (fIsN true) := by
  intro H0 as st H dx dy x y d st' Q w rx ry hf k
  unfold fIsN at hf
  split at hf
  · cases hf
    exact ⟨ry, k.val w (by rw [isNon_ok rx]; rfl)⟩
  · cases hf
theorem ok_neg : Ok1 C (rU fun i => .int (-i)) fNeg := by
  intro H0 as st H dx x d st' Q w rx hf k
  cases dx with
  | int i =>
    cases rep_int rx
    cases hf
    exact ⟨i, rfl, k.val w rfl⟩
  | _ => cases hf
/-! subscripts -/
def rIxA (K : PySem.W.Frag) : R2 := fun x y H Q => rIxL K x y H Q ∨ rIxT K x y H Q
theorem ix_A : IxR X (rIxA X.K) := IxR.or ix_list ix_tup
theorem atI_rep {H0 : Hb} {as : List Addr} {ds : List D} {vs : List V} {i : Int} {d : D} (r : Reps C H0 as ds vs) (h : atI ds i = some d) : ∃ v, atI vs i = some v ∧ Rep C H0 as d v := by
  unfold atI at h ⊢
  rw [← r.length]
  obtain ⟨j, hj, h⟩ := Option.bind_eq_some_iff.mp h
  obtain ⟨v, hv, h2⟩ := r.get h
  exact ⟨v, by rw [hj]; exact hv, h2⟩
theorem ok_ix : Ok2 C (rIxA C.K) fIx := by
  intro H0 as st H dx dy x y d st' Q w rx ry hf k
  cases dy with
  | int i =>
    cases rep_int ry
    obtain ⟨ds, hd, hf⟩ := Option.bind_eq_some_iff.mp hf
    obtain ⟨e, he, h3⟩ := Option.map_eq_some_iff.mp hf
    cases h3
    obtain ⟨a, vs, rfl, hs, hr⟩ := look_seq w rx hd
    obtain ⟨v, hv, hr2⟩ := atI_rep hr he
    rcases hs with hs | hs
    · exact .inl ⟨a, vs, i, v, rfl, rfl, hs, hv, k.val w hr2⟩
    · exact .inr ⟨a, vs, i, v, rfl, rfl, hs, hv, k.val w hr2⟩
  | _ => cases hf
end
end My


namespace My
open PySem PySem.Spec PyProof.Rows L2

/-! ### built-in functions on data -/
def intsOf : List D → Option (List Int)
  | [] => some []
  | .int i :: ds => (intsOf ds).map (i :: ·)
  | _ :: _ => none
def boolsOf : List D → Option (List Bool)
  | [] => some []
  | .bl i :: ds => (boolsOf ds).map (i :: ·)
  | _ :: _ => none
theorem intsOf_eq : ∀ {ds : List D} {ns : List Int}, intsOf ds = some ns → ds = ns.map D.int
  | [], ns, h => by
    cases h
    rfl
  | d :: ds, ns, h => by
    cases d with
    | int i =>
      unfold intsOf at h
      obtain ⟨ms, hm, rfl⟩ := Option.map_eq_some_iff.mp h
      rw [intsOf_eq hm]
      rfl
    | _ => cases h
theorem boolsOf_eq : ∀ {ds : List D} {ns : List Bool}, boolsOf ds = some ns → ds = ns.map D.bl
  | [], ns, h => by
    cases h
    rfl
  | d :: ds, ns, h => by
    cases d with
    | bl i =>
      unfold boolsOf at h
      obtain ⟨ms, hm, rfl⟩ := Option.map_eq_some_iff.mp h
      rw [boolsOf_eq hm]
      rfl
    | _ => cases h
theorem intsOf_map : ∀ (ns : List Int), intsOf (ns.map D.int) = some ns
  | [] => rfl
  | n :: ns => by
    show (intsOf (ns.map D.int)).map (n :: ·) = _
    rw [intsOf_map ns]
    rfl
theorem boolsOf_map : ∀ (ns : List Bool), boolsOf (ns.map D.bl) = some ns
  | [] => rfl
  | n :: ns => by
    show (boolsOf (ns.map D.bl)).map (n :: ·) = _
    rw [boolsOf_map ns]
    rfl
theorem Reps.bools {C : Cy} {H : Hb} {as : List Addr} {ns : List Bool} {vs : List V} (h : Reps C H as (ns.map D.bl) vs) : vs = ns.map V.bl := by
  induction ns generalizing vs with
  | nil => exact h
  | cons n ns ih =>
    obtain ⟨v, r, rfl, h1, h2⟩ := h
    have h1 : v = .bl n := h1
    rw [h1, ih h2]
    rfl
/-- ascending -/
def sortI (ns : List Int) : List Int := ns.mergeSort fun a b => decide (a ≤ b)
theorem sortI_perm (ns : List Int) : (sortI ns).Perm ns := List.mergeSort_perm ns _
theorem sortI_pair (ns : List Int) : (sortI ns).Pairwise (· ≤ ·) := by
  have h := List.pairwise_mergeSort (le := fun a b : Int => decide (a ≤ b)) (fun a b c h1 h2 => by simp at *; omega) (fun a b => by simp; omega) ns
  exact h.imp fun h => of_decide_eq_true h
theorem sort_uniq : ∀ {as bs : List Int}, as.Perm bs → as.Pairwise (· ≤ ·) → bs.Pairwise (· ≤ ·) → as = bs
  | [], bs, p, _, _ => (List.nil_perm.mp p).symm
  | a :: as, bs, p, h1, h2 => by
    cases bs with
    | nil => exact absurd p.symm (List.not_perm_nil_cons a as)
    | cons b bs =>
      have hab : a = b := by
        have m1 : a ∈ b :: bs := p.mem_iff.mp (by simp)
        have m2 : b ∈ a :: as := p.mem_iff.mpr (by simp)
        rcases List.mem_cons.mp m1 with e | m1
        · exact e
        · rcases List.mem_cons.mp m2 with e | m2
          · exact e.symm
          · have l1 := List.rel_of_pairwise_cons h1 m2
            have l2 := List.rel_of_pairwise_cons h2 m1
            omega
      subst hab
      rw [sort_uniq (List.Perm.cons_inv p) h1.of_cons h2.of_cons]
theorem sortI_eq {ns ms : List Int} (p : ms.Perm ns) (h : ms.Pairwise (· ≤ ·)) : ms = sortI ns := sort_uniq (p.trans (sortI_perm ns).symm) h (sortI_pair ns)

def fLen (ds : List D) (st : Sto) : Option (D × Sto) := match ds with
  | [.str x] => if x.length ≤ sizeLine then some (.int x.length, st) else none
  | [d] => (look d st).map fun es => (.int es.length, st)
  | _ => none
def fInt (ds : List D) (st : Sto) : Option (D × Sto) := match ds with
  | [.int i] => some (.int i, st)
  | [.bl b] => some (.int (if b then 1 else 0), st)
  | _ => none
def fAbs (ds : List D) (st : Sto) : Option (D × Sto) := match ds with
  | [.int i] => some (.int (if i < 0 then -i else i), st)
  | _ => none
def fMax (ds : List D) (st : Sto) : Option (D × Sto) := match ds with
  | [.int i, .int j] => some (.int (if j > i then j else i), st)
  | [d] => (look d st).bind fun es => (intsOf es).bind fun ns => ns.max?.map fun m => (.int m, st)
  | _ => none
def fMin (ds : List D) (st : Sto) : Option (D × Sto) := match ds with
  | [.int i, .int j] => some (.int (if j < i then j else i), st)
  | [d] => (look d st).bind fun es => (intsOf es).bind fun ns => ns.min?.map fun m => (.int m, st)
  | _ => none
def fTuple (ds : List D) (st : Sto) : Option (D × Sto) := match ds with
  | [d] => (look d st).map fun es => (.tup es, st)
  | _ => none
def fList (mu : Bool) (ds : List D) (st : Sto) : Option (D × Sto) := match ds with
  | [d] => (look d st).map fun es => alloc mu es st
  | _ => none
def fSorted (mu : Bool) (ds : List D) (st : Sto) : Option (D × Sto) := match ds with
  | [d] => (lookL d st).bind fun es => (intsOf es).map fun ns => alloc mu ((sortI ns).map D.int) st
  | _ => none
def fSum (ds : List D) (st : Sto) : Option (D × Sto) := match ds with
  | [d] => (lookL d st).bind fun es => (intsOf es).map fun ns => (.int ns.sum, st)
  | _ => none
def fAll (ds : List D) (st : Sto) : Option (D × Sto) := match ds with
  | [d] => (lookL d st).bind fun es => (boolsOf es).map fun ns => (.bl (ns.all id), st)
  | _ => none
def fAny (ds : List D) (st : Sto) : Option (D × Sto) := match ds with
  | [d] => (lookL d st).bind fun es => (boolsOf es).map fun ns => (.bl (ns.any id), st)
  | _ => none
def fGcd (ds : List D) (st : Sto) : Option (D × Sto) := match ds with
  | [.int i, .int j] => some (.int ((Nat.gcd i.natAbs j.natAbs : Nat) : Int), st)
  | _ => none
/-- a value's type -/
def tyD (d : D) (st : Sto) : Option String := match d with
  | .non => some "NoneType"
  | .bl _ => some "bool"
  | .int _ => some "int"
  | .str _ => some "str"
  | .tup _ => some "tuple"
  | .lst _ => some "list"
  | .loc n => match st[n]? with
    | some (.lst _) => some "list"
    | some (.dK _) => some "dict"
    | some (.dT _) => some "dict"
    | _ => none
  | _ => none
def isi (a b : String) : Option Bool := match b with
  | "int" => some (a == "int" || a == "bool")
  | "bool" => some (a == "bool")
  | "str" => some (a == "str")
  | "tuple" => some (a == "tuple")
  | "list" => some (a == "list")
  | "dict" => some (a == "dict")
  | _ => none
def tyOk (a : String) : Bool := a == "NoneType" || a == "bool" || a == "int" || a == "str" || a == "tuple" || a == "list" || a == "dict"
def fIsi (ds : List D) (st : Sto) : Option (D × Sto) := match ds with
  | [d, .ty n] => (tyD d st).bind fun t => (isi t n).map fun b => (.bl b, st)
  | _ => none

section
variable {C : Cy} {X : Cx}
theorem reps1 {H : Hb} {as : List Addr} {d : D} {vs : List V} (r : Reps C H as [d] vs) : ∃ v, vs = [v] ∧ Rep C H as d v := by
  obtain ⟨v, r', rfl, h, e⟩ := r
  cases (show r' = [] from e)
  exact ⟨v, rfl, h⟩
theorem reps2 {H : Hb} {as : List Addr} {d d' : D} {vs : List V} (r : Reps C H as [d, d'] vs) : ∃ v v', vs = [v, v'] ∧ Rep C H as d v ∧ Rep C H as d' v' := by
  obtain ⟨v, r', rfl, h, e⟩ := r
  obtain ⟨v', rfl, h'⟩ := reps1 e
  exact ⟨v, v', rfl, h, h'⟩
def rLenA (K : PySem.W.Frag) : List V → Hp → VK → Prop := fun xs H Q => (∃ p ys, xs = [.ref p] ∧ (SqL K H p ys ∨ SqT K H p ys) ∧ Q (.int ys.length) H) ∨ ∃ z, xs = [.str z] ∧ z.length ≤ sizeLine ∧ Q (.int z.length) H
theorem call_lenA : CallR X (.builtin "len") (rLenA X.K) := CallR.or call_len_seq call_len_str
theorem ok_len : OkC C (rLenA C.K) fLen := by
  intro H0 as st H ds vs d st' Q w r hf k
  unfold fLen at hf
  split at hf
  · obtain ⟨v, rfl, rv⟩ := reps1 r
    cases rep_str rv
    split at hf
    · rename_i hl
      cases hf
      exact .inr ⟨_, rfl, hl, k.val w rfl⟩
    · cases hf
  · obtain ⟨v, rfl, rv⟩ := reps1 r
    obtain ⟨es, he, e⟩ := Option.map_eq_some_iff.mp hf
    cases e
    obtain ⟨a, us, rfl, hs, hr⟩ := look_seq w rv he
    exact .inl ⟨a, us, rfl, hs, k.val w (by rw [hr.length]; rfl)⟩
  · cases hf
theorem ok_int : OkC C (fun xs H Q => (∃ i, xs = [.int i] ∧ Q (.int i) H) ∨ ∃ k, xs = [.bl k] ∧ Q (.int (if k then 1 else 0)) H) fInt := by
  intro H0 as st H ds vs d st' Q w r hf k
  unfold fInt at hf
  split at hf
  · obtain ⟨v, rfl, rv⟩ := reps1 r
    cases rep_int rv
    cases hf
    exact .inl ⟨_, rfl, k.val w rfl⟩
  · obtain ⟨v, rfl, rv⟩ := reps1 r
    cases rep_bl rv
    cases hf
    exact .inr ⟨_, rfl, k.val w rfl⟩
  · cases hf
theorem ok_abs : OkC C (fun xs H Q => ∃ i, xs = [.int i] ∧ Q (.int (if i < 0 then -i else i)) H) fAbs := by
  intro H0 as st H ds vs d st' Q w r hf k
  unfold fAbs at hf
  split at hf
  · obtain ⟨v, rfl, rv⟩ := reps1 r
    cases rep_int rv
    cases hf
    exact ⟨_, rfl, k.val w rfl⟩
  · cases hf
def rMaxA (K : PySem.W.Frag) : List V → Hp → VK → Prop := fun xs H Q => (∃ i j, xs = [.int i, .int j] ∧ Q (.int (if j > i then j else i)) H) ∨ rMax K xs H Q
def rMinA (K : PySem.W.Frag) : List V → Hp → VK → Prop := fun xs H Q => (∃ i j, xs = [.int i, .int j] ∧ Q (.int (if j < i then j else i)) H) ∨ rMin K xs H Q
theorem call_maxA (hc : X.calm = true) : CallR X (.builtin "max") (rMaxA X.K) := CallR.or (call_max2 hc) (cr_max hc)
theorem call_minA (hc : X.calm = true) : CallR X (.builtin "min") (rMinA X.K) := CallR.or (call_min2 hc) (cr_min hc)
def fMaxL (ds : List D) (st : Sto) : Option (D × Sto) := match ds with
  | [.int i, .int j] => some (.int (if j > i then j else i), st)
  | [d] => (lookL d st).bind fun es => (intsOf es).bind fun ns => ns.max?.map fun m => (.int m, st)
  | _ => none
def fMinL (ds : List D) (st : Sto) : Option (D × Sto) := match ds with
  | [.int i, .int j] => some (.int (if j < i then j else i), st)
  | [d] => (lookL d st).bind fun es => (intsOf es).bind fun ns => ns.min?.map fun m => (.int m, st)
  | _ => none
theorem ok_max : OkC C (rMaxA C.K) fMaxL := by
  intro H0 as st H ds vs d st' Q w r hf k
  unfold fMaxL at hf
  split at hf
  · obtain ⟨v, v', rfl, rv, rv'⟩ := reps2 r
    cases rep_int rv
    cases rep_int rv'
    cases hf
    exact .inl ⟨_, _, rfl, k.val w rfl⟩
  · obtain ⟨v, rfl, rv⟩ := reps1 r
    obtain ⟨es, he, hf⟩ := Option.bind_eq_some_iff.mp hf
    obtain ⟨ns, hn, hf⟩ := Option.bind_eq_some_iff.mp hf
    obtain ⟨m, hm, e⟩ := Option.map_eq_some_iff.mp hf
    cases e
    obtain ⟨a, us, rfl, hs, hr⟩ := lookL_seq w rv he
    rw [intsOf_eq hn] at hr
    rw [hr.ints] at hs
    obtain ⟨m1, m2⟩ := List.max?_eq_some_iff.mp hm
    refine .inr ⟨a, ns, rfl, SqL.of hs, ?_, fun m' h1 h2 => ?_⟩
    · cases ns with
      | nil => cases hm
      | cons _ _ => exact Nat.succ_pos _
    · have e : m' = m := Int.le_antisymm (m2 m' h1) (h2 m m1)
      exact k.val w (by rw [e]; rfl)
  · cases hf
theorem ok_min : OkC C (rMinA C.K) fMinL := by
  intro H0 as st H ds vs d st' Q w r hf k
  unfold fMinL at hf
  split at hf
  · obtain ⟨v, v', rfl, rv, rv'⟩ := reps2 r
    cases rep_int rv
    cases rep_int rv'
    cases hf
    exact .inl ⟨_, _, rfl, k.val w rfl⟩
  · obtain ⟨v, rfl, rv⟩ := reps1 r
    obtain ⟨es, he, hf⟩ := Option.bind_eq_some_iff.mp hf
    obtain ⟨ns, hn, hf⟩ := Option.bind_eq_some_iff.mp hf
    obtain ⟨m, hm, e⟩ := Option.map_eq_some_iff.mp hf
    cases e
    obtain ⟨a, us, rfl, hs, hr⟩ := lookL_seq w rv he
    rw [intsOf_eq hn] at hr
    rw [hr.ints] at hs
    obtain ⟨m1, m2⟩ := List.min?_eq_some_iff.mp hm
    refine .inr ⟨a, ns, rfl, SqL.of hs, ?_, fun m' h1 h2 => ?_⟩
    · cases ns with
      | nil => cases hm
      | cons _ _ => exact Nat.succ_pos _
    · have e : m' = m := Int.le_antisymm (h2 m m1) (m2 m' h1)
      exact k.val w (by rw [e]; rfl)
  · cases hf
theorem ok_tuple : OkC C (fun xs H Q => ∃ p ys, xs = [.ref p] ∧ ((SqL C.K H p ys ∧ ∀ l, H l = none → Q (.ref l) (upd H l (.tup ys))) ∨ (SqT C.K H p ys ∧ Q (.ref p) H))) fTuple := by
  intro H0 as st H ds vs d st' Q w r hf k
  unfold fTuple at hf
  split at hf
  · rename_i d0
    obtain ⟨v, rfl, rv⟩ := reps1 r
    obtain ⟨es, he, e⟩ := Option.map_eq_some_iff.mp hf
    cases e
    cases d0 with
    | tup fs =>
      cases he
      obtain ⟨a, us, rfl, hs, hr⟩ := rv
      exact ⟨a, us, rfl, .inr ⟨same_seqT w.ex hs, k.val w ⟨a, us, rfl, hs, hr⟩⟩⟩
    | lst fs =>
      cases he
      obtain ⟨a, us, rfl, hs, hr⟩ := rv
      exact ⟨a, us, rfl, .inl ⟨SqL.of (w.ex _ _ hs), k.newT w hr⟩⟩
    | fro fs =>
      cases he
      obtain ⟨a, us, rfl, hs, hr⟩ := rv
      exact ⟨a, us, rfl, .inl ⟨w.ex.seq hs, k.newT w hr⟩⟩
    | loc n =>
      obtain ⟨a, us, rfl, hs, hr⟩ := lookL_seq w rv (d := .loc n) he
      exact ⟨a, us, rfl, .inl ⟨SqL.of hs, k.newT w hr⟩⟩
    | _ => cases he
  · cases hf
theorem ok_list {mu : Bool} : OkC C (fun xs H Q => ∃ p ys, xs = [.ref p] ∧ (SqL C.K H p ys ∨ SqT C.K H p ys) ∧ ∀ l, H l = none → Q (.ref l) (upd H l (.lst ys))) (fList mu) := by
  intro H0 as st H ds vs d st' Q w r hf k
  unfold fList at hf
  split at hf
  · obtain ⟨v, rfl, rv⟩ := reps1 r
    obtain ⟨es, he, e⟩ := Option.map_eq_some_iff.mp hf
    obtain ⟨a, us, rfl, hs, hr⟩ := look_seq w rv he
    exact ⟨a, us, rfl, hs, k.newA e w hr⟩
  · cases hf
theorem ok_sorted {mu : Bool} : OkC C (rSortedI C.K) (fSorted mu) := by
  intro H0 as st H ds vs d st' Q w r hf k
  unfold fSorted at hf
  split at hf
  · obtain ⟨v, rfl, rv⟩ := reps1 r
    obtain ⟨es, he, hf⟩ := Option.bind_eq_some_iff.mp hf
    obtain ⟨ns, hn, e⟩ := Option.map_eq_some_iff.mp hf
    obtain ⟨a, us, rfl, hs, hr⟩ := lookL_seq w rv he
    rw [intsOf_eq hn] at hr
    rw [hr.ints] at hs
    refine ⟨a, ns, rfl, SqL.of hs, fun ns' p hp hw hfr => ?_⟩
    rw [sortI_eq hp hw]
    exact k.newA e w (Reps.of_ints _) p hfr
  · cases hf
theorem ok_sum : OkC C (rSum C.K) fSum := by
  intro H0 as st H ds vs d st' Q w r hf k
  unfold fSum at hf
  split at hf
  · obtain ⟨v, rfl, rv⟩ := reps1 r
    obtain ⟨es, he, hf⟩ := Option.bind_eq_some_iff.mp hf
    obtain ⟨ns, hn, e⟩ := Option.map_eq_some_iff.mp hf
    cases e
    obtain ⟨a, us, rfl, hs, hr⟩ := lookL_seq w rv he
    rw [intsOf_eq hn] at hr
    rw [hr.ints] at hs
    exact ⟨a, ns, rfl, SqL.of hs, k.val w rfl⟩
  · cases hf
theorem ok_all : OkC C (rAll C.K) fAll := by
  intro H0 as st H ds vs d st' Q w r hf k
  unfold fAll at hf
  split at hf
  · obtain ⟨v, rfl, rv⟩ := reps1 r
    obtain ⟨es, he, hf⟩ := Option.bind_eq_some_iff.mp hf
    obtain ⟨ns, hn, e⟩ := Option.map_eq_some_iff.mp hf
    cases e
    obtain ⟨a, us, rfl, hs, hr⟩ := lookL_seq w rv he
    rw [boolsOf_eq hn] at hr
    rw [hr.bools] at hs
    exact ⟨a, ns, rfl, SqL.of hs, k.val w rfl⟩
  · cases hf
theorem ok_any : OkC C (rAny C.K) fAny := by
  intro H0 as st H ds vs d st' Q w r hf k
  unfold fAny at hf
  split at hf
  · obtain ⟨v, rfl, rv⟩ := reps1 r
    obtain ⟨es, he, hf⟩ := Option.bind_eq_some_iff.mp hf
    obtain ⟨ns, hn, e⟩ := Option.map_eq_some_iff.mp hf
    cases e
    obtain ⟨a, us, rfl, hs, hr⟩ := lookL_seq w rv he
    rw [boolsOf_eq hn] at hr
    rw [hr.bools] at hs
    exact ⟨a, ns, rfl, SqL.of hs, k.val w rfl⟩
  · cases hf
theorem ok_gcd : OkC C rGcd fGcd := by
  intro H0 as st H ds vs d st' Q w r hf k
  unfold fGcd at hf
  split at hf
  · obtain ⟨v, v', rfl, rv, rv'⟩ := reps2 r
    cases rep_int rv
    cases rep_int rv'
    cases hf
    exact ⟨_, _, rfl, k.val w rfl⟩
  · cases hf
/-- isinstance -/
theorem rd_tup {K : PySem.W.Frag} {H : Hp} {a : Addr} {vs : List V} (h : SqT K H a vs) : TyX K H (.ref a) (.type "tuple") := by
  rcases h with (h | ⟨o, h⟩) | ⟨o, its, n, h, hc, _⟩
  · exact .base (.tup h)
  · exact .fTuple h
  · exact .kTuple h hc
theorem tyD_ok {H0 : Hb} {as : List Addr} {st : Sto} {H : Hp} {d : D} {v : V} {t : String} (w : WR C H0 as st H) (r : Rep C H0 as d v) (h : tyD d st = some t) : TyX C.K H v (.type t) ∧ tyOk t = true := by
  cases d with
  | non => cases h; cases (show v = .non from r); exact ⟨.base .non, rfl⟩
  | bl b => cases h; cases (show v = .bl b from r); exact ⟨.base (.bl b), rfl⟩
  | int b => cases h; cases (show v = .int b from r); exact ⟨.base (.int b), rfl⟩
  | str b => cases h; cases (show v = .str b from r); exact ⟨.base (.str b), rfl⟩
  | tup ds =>
    cases h
    obtain ⟨a, vs, rfl, hs, _⟩ := r
    exact ⟨rd_tup (same_seqT w.ex hs), rfl⟩
  | lst ds =>
    cases h
    obtain ⟨a, vs, rfl, hs, _⟩ := r
    exact ⟨.base (.lst (w.ex _ _ hs)), rfl⟩
  | loc n =>
    obtain ⟨a, ha, rfl⟩ := r
    unfold tyD at h
    dsimp only at h
    split at h
    all_goals first | (cases h; done) | skip
    all_goals rename_i he
    all_goals cases h
    all_goals have hl := (List.getElem?_eq_some_iff.mp ha).1
    all_goals rcases w.own n a _ ha he with z | ⟨z, ho, h1, vs, rfl, h2⟩
    all_goals first | (cases z; done) | skip
    · exact ⟨.base (.lst h1), rfl⟩
    · exact ⟨.base (.dK h1), rfl⟩
    · exact ⟨.base (.dT h1), rfl⟩
  | _ => cases h
theorem kit_all : ∀ a ∈ ["NoneType", "bool", "int", "str", "tuple", "list", "dict"], ∀ b ∈ ["int", "bool", "str", "tuple", "list", "dict"], kitB a b = isi a b := by decide +kernel
theorem isi_in {a b : String} {r : Bool} (h : isi a b = some r) : b ∈ ["int", "bool", "str", "tuple", "list", "dict"] := by
  unfold isi at h
  split at h <;> first | (cases h; done) | simp
theorem tyOk_in {a : String} (h : tyOk a = true) : a ∈ ["NoneType", "bool", "int", "str", "tuple", "list", "dict"] := by
  unfold tyOk at h
  simp only [Bool.or_eq_true, beq_iff_eq, or_assoc] at h
  simp only [List.mem_cons, List.not_mem_nil, or_false]
  exact h
theorem ok_isi : OkC C (rIsi C.K) fIsi := by
  intro H0 as st H ds vs d st' Q w r hf k
  unfold fIsi at hf
  split at hf
  · rename_i d0 n
    obtain ⟨v, v', rfl, rv, rv'⟩ := reps2 r
    cases (show v' = .ty n from rv')
    obtain ⟨t, ht, hf⟩ := Option.bind_eq_some_iff.mp hf
    obtain ⟨b, hb, e⟩ := Option.map_eq_some_iff.mp hf
    cases e
    obtain ⟨h1, h2⟩ := tyD_ok w rv ht
    exact ⟨v, _, _, _, b, rfl, .ty n, h1, kit_ty ((kit_all _ (tyOk_in h2) _ (isi_in hb)).trans hb), k.val w rfl⟩
  · cases hf
end
end My


namespace My
open PySem PySem.Spec PyProof.Rows L2

/-! ### methods of lists -/
def mMt (f : D → List D → Sto → Option (D × Sto)) (a : ME) (r : MA) : ME := fun en st => (a en st).bind fun p => (lookL p.1 p.2).bind fun _ => (r en p.2).bind fun q => f p.1 q.1 q.2
def OkM (C : Cy) (r : V → List V → Hp → VK → Prop) (f : D → List D → Sto → Option (D × Sto)) : Prop := ∀ H0 as st H dx ds x vs d st' Q, WR C H0 as st H → Rep C H0 as dx x → Reps C H0 as ds vs → f dx ds st = some (d, st') → KE C H0 as st' d Q → r x vs H Q
def fAppend (a : D) (ds : List D) (st : Sto) : Option (D × Sto) := match a, ds with
  | .loc n, [d] => match st[n]? with
    | some (.lst es) => if es.length < sizeLine then some (.non, st.set n (.lst (es ++ [d]))) else none
    | _ => none
  | _, _ => none
def fPop (a : D) (ds : List D) (st : Sto) : Option (D × Sto) := match a, ds with
  | .loc n, [] => match st[n]? with
    | some (.lst es) => es[es.length - 1]?.map fun d => (d, st.set n (.lst es.dropLast))
    | _ => none
  | .loc n, [.int i] => match st[n]? with
    | some (.lst es) => if small i = true then (seqIndex? i es.length).bind fun k => es[k]?.map fun d => (d, st.set n (.lst (es.eraseIdx k))) else none
    | _ => none
  | _, _ => none
def fExtend (a : D) (ds : List D) (st : Sto) : Option (D × Sto) := match a, ds with
  | .loc n, [b] => match st[n]? with
    | some (.lst es) => (lookL b st).bind fun fs => if es.length + fs.length ≤ sizeLine then some (.non, st.set n (.lst (es ++ fs))) else none
    | _ => none
  | _, _ => none
section
variable {C : Cy} {X : Cx} {σ : L2.St} {H : Hp} {Q : VK} {ma mb : ME}
theorem em_mt {r : V → List V → Hp → VK → Prop} {f : D → List D → Sto → Option (D × Sto)} (ok : OkM C r f) {m : MA} : eM C (mMt f ma m) σ H Q → tBM C.K "list" r (eM C ma) (aM C m) σ H Q := by
  rintro ⟨H0, as, en, st, d, st', e, w, hm, k⟩
  unfold mMt at hm
  obtain ⟨⟨da, s1⟩, ha, hm⟩ := Option.bind_eq_some_iff.mp hm
  obtain ⟨ds, hl, hm⟩ := Option.bind_eq_some_iff.mp hm
  obtain ⟨⟨db, s2⟩, hb, hm⟩ := Option.bind_eq_some_iff.mp hm
  refine ⟨H0, as, en, st, da, s1, e, w, ha, fun x H1 as1 H1' l1 w1 r1 => ?_⟩
  obtain ⟨a, vs, rfl, hs, _⟩ := lookL_seq w1 r1 hl
  refine ⟨.inl ⟨rfl, vs, SqL.of hs⟩, H1, as1, en, s1, db, s2, e.mono l1, w1, hb, fun y H2 as2 H2' l2 w2 r2 => ?_⟩
  exact ok H2 as2 s2 H2' da db _ y d st' Q w2 (r1.mono l2) r2 hm (k.mono (l1.trans l2))
theorem em_mt0 {r : V → List V → Hp → VK → Prop} {f : D → List D → Sto → Option (D × Sto)} (ok : OkM C r f) : eM C (mMt f ma mNil) σ H Q → tBM0 C.K "list" r (eM C ma) σ H Q := by
  rintro ⟨H0, as, en, st, d, st', e, w, hm, k⟩
  unfold mMt at hm
  obtain ⟨⟨da, s1⟩, ha, hm⟩ := Option.bind_eq_some_iff.mp hm
  obtain ⟨ds, hl, hm⟩ := Option.bind_eq_some_iff.mp hm
  obtain ⟨⟨db, s2⟩, hb, hm⟩ := Option.bind_eq_some_iff.mp hm
  cases hb
  refine ⟨H0, as, en, st, da, s1, e, w, ha, fun x H1 as1 H1' l1 w1 r1 => ?_⟩
  obtain ⟨a, vs, rfl, hs, _⟩ := lookL_seq w1 r1 hl
  exact ⟨.inl ⟨rfl, vs, SqL.of hs⟩, ok H1 as1 s1 H1' da [] _ [] d st' Q w1 r1 rfl hm (k.mono l1)⟩
theorem KE.put {H0 : Hb} {as : List Addr} {st : Sto} {n : Nat} {a : Addr} {o : SO} {ho : HO} {d : D} {v : V} (k : KE C H0 as (st.set n o) d Q) (w : WR C H0 as st H) (ha : as[n]? = some a) (hn : H0.h a = none) (r : RepO C H0 as o ho) (hv : Rep C H0 as d v) : Q v (upd H a ho) :=
  k v H0 as _ Le.refl (w.put ha hn r) hv
theorem ok_append : OkM C rAppend fAppend := by
  intro H0 as st H dx ds x vs d st' Q w rx rs hf k
  unfold fAppend at hf
  split at hf
  · split at hf
    · rename_i he
      split at hf
      · rename_i hl
        cases hf
        obtain ⟨v, rfl, rv⟩ := reps1 rs
        obtain ⟨a, us, ha, hn, h1, hr⟩ := w.loc he
        obtain ⟨a', ha', rfl⟩ := rx
        rw [ha] at ha'
        cases ha'
        exact ⟨a, us, v, rfl, rfl, h1, by rw [← hr.length]; exact hl, k.put w ha hn ⟨_, rfl, hr.append (Reps.one rv)⟩ rfl⟩
      · cases hf
    · cases hf
  · cases hf
theorem Reps.init {H : Hb} {as : List Addr} {ds : List D} {vs : List V} (h : Reps C H as ds vs) : Reps C H as ds.dropLast vs.dropLast := by
  rw [List.dropLast_eq_take, List.dropLast_eq_take, h.length]
  exact h.take _
theorem Reps.erase {H : Hb} {as : List Addr} : ∀ {ds : List D} {vs : List V} (n : Nat), Reps C H as ds vs → Reps C H as (ds.eraseIdx n) (vs.eraseIdx n)
  | [], _, n, h => by
    have h : _ = [] := h
    subst h
    simp [Reps]
  | e :: ds, _, 0, h => by
    obtain ⟨v', r, rfl, h1, h2⟩ := h
    exact h2
  | e :: ds, _, n + 1, h => by
    obtain ⟨v', r, rfl, h1, h2⟩ := h
    exact ⟨v', _, rfl, h1, Reps.erase n h2⟩
def rPopA : V → List V → Hp → VK → Prop := fun x vs H Q => rPop x vs H Q ∨ rPopAt x vs H Q
theorem mt_popA : MtR X "list.pop" rPopA := MtR.or mt_pop mt_popAt
theorem ok_pop : OkM C rPopA fPop := by
  intro H0 as st H dx ds x vs d st' Q w rx rs hf k
  unfold fPop at hf
  split at hf
  · split at hf
    · rename_i he
      obtain ⟨d0, hd, e⟩ := Option.map_eq_some_iff.mp hf
      cases e
      cases (show vs = [] from rs)
      obtain ⟨a, us, ha, hn, h1, hr⟩ := w.loc he
      obtain ⟨a', ha', rfl⟩ := rx
      rw [ha] at ha'
      cases ha'
      obtain ⟨v, hv, rv⟩ := hr.get hd
      exact .inl ⟨a, us, v, rfl, rfl, h1, by rw [← hr.length]; exact hv, k.put w ha hn ⟨_, rfl, hr.init⟩ rv⟩
    · cases hf
  · split at hf
    · rename_i he
      split at hf
      · rename_i hb
        obtain ⟨j, hj, hf⟩ := Option.bind_eq_some_iff.mp hf
        obtain ⟨d0, hd, e⟩ := Option.map_eq_some_iff.mp hf
        cases e
        obtain ⟨v, rfl, rv⟩ := reps1 rs
        cases rep_int rv
        obtain ⟨a, us, ha, hn, h1, hr⟩ := w.loc he
        obtain ⟨a', ha', rfl⟩ := rx
        rw [ha] at ha'
        cases ha'
        obtain ⟨v, hv, rv⟩ := hr.get hd
        have hs := small_le hb
        have e63 : (2 : Int) ^ 63 = 9223372036854775808 := by decide
        exact .inr ⟨a, us, _, j, v, rfl, rfl, h1, by omega, by omega, by rw [← hr.length]; exact hj, hv, k.put w ha hn ⟨_, rfl, hr.erase j⟩ rv⟩
      · cases hf
    · cases hf
  · cases hf
theorem ok_extend : OkM C rExtend fExtend := by
  intro H0 as st H dx ds x vs d st' Q w rx rs hf k
  unfold fExtend at hf
  split at hf
  · split at hf
    · rename_i he
      obtain ⟨fs, hfs, hf⟩ := Option.bind_eq_some_iff.mp hf
      split at hf
      · rename_i hl
        cases hf
        obtain ⟨v, rfl, rv⟩ := reps1 rs
        obtain ⟨b, ws, rfl, hb, rw'⟩ := lookL_seq w rv hfs
        obtain ⟨a, us, ha, hn, h1, hr⟩ := w.loc he
        obtain ⟨a', ha', rfl⟩ := rx
        rw [ha] at ha'
        cases ha'
        exact ⟨a, b, us, ws, rfl, rfl, h1, hb, by rw [← hr.length, ← rw'.length]; exact hl, k.put w ha hn ⟨_, rfl, hr.append rw'⟩ rfl⟩
      · cases hf
    · cases hf
  · cases hf
end

/-! ### slices -/
def cutD (ds : List D) (lo hi : Option Int) : List D := (ds.drop (HT.sIx ds.length 0 lo)).take (HT.sIx ds.length ds.length hi - HT.sIx ds.length 0 lo)
def mNone : MO := fun _ st => some (none, st)
def mSome (a : ME) : MO := fun en st => (a en st).bind fun p => match p.1 with
  | .int i => some (some i, p.2)
  | _ => none
def fSl (mu : Bool) (d : D) (lo hi : Option Int) (st : Sto) : Option (D × Sto) := match d with
  | .tup ds => some (.tup (cutD ds lo hi), st)
  | d => (look d st).map fun ds => alloc mu (cutD ds lo hi) st
def mSl (mu : Bool) (a : ME) (l h : MO) : ME := fun en st => (a en st).bind fun p => (l en p.2).bind fun q => (h en q.2).bind fun r => fSl mu p.1 q.1 r.1 r.2
def mRev (mu : Bool) (a : ME) : ME := fun en st => (a en st).bind fun p => match p.1 with
  | .tup _ => none
  | d => (look d p.2).map fun ds => alloc mu ds.reverse p.2
section
variable {C : Cy} {X : Cx} {σ : L2.St} {H : Hp} {Q : VK} {ma mb : ME} {ml mh : MO}
theorem om_none {Q : Option Int → Hp → Prop} : oM C mNone σ H Q → tNoPart σ H Q := by
  rintro ⟨H0, as, en, st, d, st', e, w, hm, k⟩
  cases hm
  exact k H0 as H Le.refl w
theorem om_some {Q : Option Int → Hp → Prop} : oM C (mSome ma) σ H Q → tPart (eM C ma) σ H Q := by
  rintro ⟨H0, as, en, st, d, st', e, w, hm, k⟩
  unfold mSome at hm
  obtain ⟨⟨da, s1⟩, ha, hm⟩ := Option.bind_eq_some_iff.mp hm
  dsimp only at hm
  split at hm
  · cases hm
    refine ⟨H0, as, en, st, _, _, e, w, ha, fun x H1 as1 H1' l1 w1 r1 => ?_⟩
    exact ⟨_, rep_int r1, k H1 as1 H1' l1 w1⟩
  · cases hm
def rSlAll (K : PySem.W.Frag) : V → Option Int → Option Int → Hp → VK → Prop := fun x lo hi H Q => rSlA K x lo hi H Q ∨ rSlL K x lo hi H Q
theorem sl_all : SlR X (rSlAll X.K) := SlR.or sl_tupA sl_list
theorem Reps.cut {H : Hb} {as : List Addr} {ds : List D} {vs : List V} (h : Reps C H as ds vs) (lo hi : Option Int) : Reps C H as (cutD ds lo hi) (cutV vs lo hi) := by
  unfold cutD cutV
  rw [h.length]
  exact (h.drop _).take _
theorem cut_whole {vs : List V} {lo hi : Option Int} (h : HT.sIx vs.length 0 lo = 0 ∧ HT.sIx vs.length vs.length hi = vs.length) : cutV vs lo hi = vs := by
  unfold cutV
  rw [h.1, h.2, List.drop_zero, Nat.sub_zero, List.take_length]
theorem fSl_ok {mu : Bool} {H0 : Hb} {as : List Addr} {st st' : Sto} {d d' : D} {x : V} {lo hi : Option Int} (w : WR C H0 as st H) (rx : Rep C H0 as d x) (hf : fSl mu d lo hi st = some (d', st')) (k : KE C H0 as st' d' Q) : rSlAll C.K x lo hi H Q := by
  have seq : ∀ ds, (∃ a vs, x = .ref a ∧ SqL C.K H a vs ∧ Reps C H0 as ds vs) → some (alloc mu (cutD ds lo hi) st) = some (d', st') → rSlAll C.K x lo hi H Q := by
    rintro ds ⟨a, vs, rfl, hs, hr⟩ e
    exact .inr ⟨a, vs, rfl, hs, k.newA (Option.some.inj e) w (hr.cut lo hi)⟩
  cases d with
  | tup ds =>
    cases hf
    obtain ⟨a, vs, rfl, hs, hr⟩ := rx
    refine .inl ⟨a, vs, rfl, same_seqT w.ex hs, fun e => ?_, fun _ => k.newT w (hr.cut lo hi)⟩
    refine k.val w ⟨a, vs, rfl, hs, ?_⟩
    have := hr.cut lo hi
    rw [cut_whole e] at this
    exact this
  | lst ds =>
    obtain ⟨a, vs, rfl, hs, hr⟩ := rx
    exact seq ds ⟨a, vs, rfl, SqL.of (w.ex _ _ hs), hr⟩ hf
  | fro ds =>
    obtain ⟨a, vs, rfl, hs, hr⟩ := rx
    exact seq ds ⟨a, vs, rfl, w.ex.seq hs, hr⟩ hf
  | loc n =>
    obtain ⟨ds, hd, e⟩ := Option.map_eq_some_iff.mp hf
    obtain ⟨a, vs, rfl, hs, hr⟩ := lookL_seq w rx (d := .loc n) hd
    exact seq ds ⟨a, vs, rfl, SqL.of hs, hr⟩ (by rw [e])
  | _ => cases hf
theorem em_sl {mu : Bool} : eM C (mSl mu ma ml mh) σ H Q → tSl (rSlAll C.K) (eM C ma) (oM C ml) (oM C mh) σ H Q := by
  rintro ⟨H0, as, en, st, d, st', e, w, hm, k⟩
  unfold mSl at hm
  obtain ⟨⟨da, s1⟩, ha, hm⟩ := Option.bind_eq_some_iff.mp hm
  obtain ⟨⟨ol, s2⟩, hl, hm⟩ := Option.bind_eq_some_iff.mp hm
  obtain ⟨⟨oh, s3⟩, hh, hm⟩ := Option.bind_eq_some_iff.mp hm
  refine ⟨H0, as, en, st, da, s1, e, w, ha, fun x H1 as1 H1' l1 w1 r1 => ?_⟩
  refine ⟨H1, as1, en, s1, ol, s2, e.mono l1, w1, hl, fun H2 as2 H2' l2 w2 => ?_⟩
  refine ⟨H2, as2, en, s2, oh, s3, e.mono (l1.trans l2), w2, hh, fun H3 as3 H3' l3 w3 => ?_⟩
  exact fSl_ok w3 (r1.mono (l2.trans l3)) hm (k.mono ((l1.trans l2).trans l3))
theorem em_rev {mu : Bool} : eM C (mRev mu ma) σ H Q → tRevL C.K (eM C ma) σ H Q := by
  rintro ⟨H0, as, en, st, d, st', e, w, hm, k⟩
  unfold mRev at hm
  obtain ⟨⟨da, s1⟩, ha, hm⟩ := Option.bind_eq_some_iff.mp hm
  refine ⟨H0, as, en, st, da, s1, e, w, ha, fun x H1 as1 H1' l1 w1 r1 => ?_⟩
  have seq : ∀ ds, (∃ a vs, x = .ref a ∧ SqL C.K H1' a vs ∧ Reps C H1 as1 ds vs) → some (alloc mu ds.reverse s1) = some (d, st') → ∃ a xs, x = .ref a ∧ SqL C.K H1' a xs ∧ ∀ p, H1' p = none → Q (.ref p) (upd H1' p (.lst xs.reverse)) := by
    rintro ds ⟨a, vs, rfl, hs, hr⟩ e
    exact ⟨a, vs, rfl, hs, (k.mono l1).newA (Option.some.inj e) w1 hr.rev⟩
  cases da with
  | tup ds => cases hm
  | lst ds =>
    obtain ⟨a, vs, rfl, hs, hr⟩ := r1
    exact seq ds ⟨a, vs, rfl, SqL.of (w1.ex _ _ hs), hr⟩ hm
  | fro ds =>
    obtain ⟨a, vs, rfl, hs, hr⟩ := r1
    exact seq ds ⟨a, vs, rfl, w1.ex.seq hs, hr⟩ hm
  | loc n =>
    obtain ⟨ds, hd, e⟩ := Option.map_eq_some_iff.mp hm
    obtain ⟨a, vs, rfl, hs, hr⟩ := lookL_seq w1 r1 (d := .loc n) hd
    exact seq ds ⟨a, vs, rfl, SqL.of hs, hr⟩ (by rw [e])
  | _ => cases hm
end

/-! ### displays -/
def mTup (a : MA) : ME := fun en st => (a en st).bind fun p => if p.1.length ≤ sizeLine then some (.tup p.1, p.2) else none
def mLst (mu : Bool) (a : MA) : ME := fun en st => (a en st).bind fun p => if p.1.length ≤ sizeLine then some (alloc mu p.1 p.2) else none
section
variable {C : Cy} {σ : L2.St} {H : Hp} {Q : VK} {m : MA}
theorem em_tup : eM C (mTup m) σ H Q → tTup (aM C m) σ H Q := by
  rintro ⟨H0, as, en, st, d, st', e, w, hm, k⟩
  unfold mTup at hm
  obtain ⟨⟨ds, s1⟩, ha, hm⟩ := Option.bind_eq_some_iff.mp hm
  dsimp only at hm
  split at hm
  · rename_i hl
    cases hm
    refine ⟨H0, as, en, st, ds, _, e, w, ha, fun xs H1 as1 H1' l1 w1 r1 => ⟨by rw [← r1.length]; exact hl, (k.mono l1).newT w1 r1⟩⟩
  · cases hm
theorem em_lst {mu : Bool} : eM C (mLst mu m) σ H Q → tLst (aM C m) σ H Q := by
  rintro ⟨H0, as, en, st, d, st', e, w, hm, k⟩
  unfold mLst at hm
  obtain ⟨⟨ds, s1⟩, ha, hm⟩ := Option.bind_eq_some_iff.mp hm
  dsimp only at hm
  split at hm
  · rename_i hl
    refine ⟨H0, as, en, st, ds, s1, e, w, ha, fun xs H1 as1 H1' l1 w1 r1 => ⟨by rw [← r1.length]; exact hl, (k.mono l1).newA (Option.some.inj hm) w1 r1⟩⟩
  · cases hm
end

/-! ### tests -/
def truD (d : D) (st : Sto) : Option Bool := match d with
  | .non => some false
  | .bl b => some b
  | .int i => some (i != 0)
  | .str x => if x.length ≤ sizeLine then some ((x.length : Int) != 0) else none
  | .loc n => match st[n]? with
    | some (.lst ds) => some (!ds.isEmpty)
    | some (.dK kvs) => some (!kvs.isEmpty)
    | _ => none
  | d => (look d st).map fun ds => !ds.isEmpty
/-- any value's truth; a bool's -/
def mT (m : ME) : MB := fun en st => (m en st).bind fun p => (truD p.1 p.2).map (·, p.2)
def mTB (m : ME) : MB := fun en st => (m en st).bind fun p => match p.1 with
  | .bl b => some (b, p.2)
  | _ => none
def mAnd (a b : MB) : MB := fun en st => (a en st).bind fun p => if p.1 = true then b en p.2 else some (false, p.2)
def mOr (a b : MB) : MB := fun en st => (a en st).bind fun p => if p.1 = true then some (true, p.2) else b en p.2
def mNot (a : MB) : MB := fun en st => (a en st).bind fun p => some (!p.1, p.2)
def mAndV (a b : ME) : ME := fun en st => (a en st).bind fun p => match p.1 with
  | .bl true => b en p.2
  | .bl false => some (.bl false, p.2)
  | _ => none
def mOrV (a b : ME) : ME := fun en st => (a en st).bind fun p => match p.1 with
  | .bl true => some (.bl true, p.2)
  | .bl false => b en p.2
  | _ => none
def mNotV (a : ME) : ME := fun en st => (a en st).bind fun p => match p.1 with
  | .bl b => some (.bl (!b), p.2)
  | _ => none
def mIf (c : MB) (a b : ME) : ME := fun en st => (c en st).bind fun p => if p.1 = true then a en p.2 else b en p.2
section
variable {C : Cy} {σ : L2.St} {H : Hp} {Q : VK} {R : Bool → Hp → Prop} {ma mb : ME} {mc md : MB}
theorem Reps.empty {H : Hb} {as : List Addr} {ds : List D} {vs : List V} (h : Reps C H as ds vs) : vs.isEmpty = ds.isEmpty := by
  cases ds with
  | nil => cases (show vs = [] from h); rfl
  | cons d ds => obtain ⟨v, r, rfl, _⟩ := h; rfl
theorem RepKV.empty {κ : Type} {H : Hb} {as : List Addr} {ds : List (κ × D)} {vs : List (κ × V)} (h : RepKV C H as ds vs) : vs.isEmpty = ds.isEmpty := by
  cases ds with
  | nil => cases (show vs = [] from h); rfl
  | cons d ds => obtain ⟨k, d⟩ := d; obtain ⟨v, r, rfl, _⟩ := h; rfl
theorem truD_ok {H0 : Hb} {as : List Addr} {st : Sto} {d : D} {x : V} {b : Bool} (w : WR C H0 as st H) (r : Rep C H0 as d x) (h : truD d st = some b) : TruV C.K x H b := by
  cases d with
  | non => cases h; cases (show x = .non from r); rfl
  | bl b => cases h; cases rep_bl r; rfl
  | int b => cases h; cases rep_int r; rfl
  | str y =>
    cases rep_str r
    unfold truD at h
    dsimp only at h
    split at h
    · rename_i hl
      cases h
      exact ⟨hl, rfl⟩
    · cases h
  | tup ds =>
    cases h
    obtain ⟨a, vs, rfl, hs, hr⟩ := r
    exact .inr (.inl ⟨vs, same_seqT w.ex hs, by rw [hr.empty]⟩)
  | lst ds =>
    cases h
    obtain ⟨a, vs, rfl, hs, hr⟩ := r
    exact .inl ⟨vs, SqL.of (w.ex _ _ hs), by rw [hr.empty]⟩
  | fro ds =>
    cases h
    obtain ⟨a, vs, rfl, hs, hr⟩ := r
    exact .inl ⟨vs, w.ex.seq hs, by rw [hr.empty]⟩
  | loc n =>
    obtain ⟨a, ha, rfl⟩ := r
    unfold truD at h
    dsimp only at h
    split at h
    · rename_i he
      cases h
      obtain ⟨a', vs, ha', _, h1, hr⟩ := w.loc he
      rw [ha] at ha'
      cases ha'
      exact .inl ⟨vs, SqL.of h1, by rw [hr.empty]⟩
    · rename_i he
      cases h
      rcases w.own n a _ ha he with z | ⟨z, ho, h1, vs, rfl, h2⟩
      · cases z
      · exact .inr (.inr ⟨vs, h1, by rw [h2.empty]⟩)
    · cases h
  | _ => cases h
theorem bm_tru : bM C (mT ma) σ H R → eM C ma σ H (fun x H' => ∃ k, TruV C.K x H' k ∧ R k H') := by
  rintro ⟨H0, as, en, st, b, st', e, w, hm, k⟩
  unfold mT at hm
  obtain ⟨⟨da, s1⟩, ha, hm⟩ := Option.bind_eq_some_iff.mp hm
  obtain ⟨b', hb, e'⟩ := Option.map_eq_some_iff.mp hm
  cases e'
  exact ⟨H0, as, en, st, da, s1, e, w, ha, fun x H1 as1 H1' l1 w1 r1 => ⟨b, truD_ok w1 r1 hb, k H1 as1 H1' l1 w1⟩⟩
theorem bm_bool : bM C (mTB ma) σ H R → eM C ma σ H (fun x H' => ∃ k, x = .bl k ∧ R k H') := by
  rintro ⟨H0, as, en, st, b, st', e, w, hm, k⟩
  unfold mTB at hm
  obtain ⟨⟨da, s1⟩, ha, hm⟩ := Option.bind_eq_some_iff.mp hm
  dsimp only at hm
  split at hm
  · cases hm
    exact ⟨H0, as, en, st, _, _, e, w, ha, fun x H1 as1 H1' l1 w1 r1 => ⟨_, rep_bl r1, k H1 as1 H1' l1 w1⟩⟩
  · cases hm
theorem bm_and : bM C (mAnd mc md) σ H R → tAnd (bM C mc) (bM C md) σ H R := by
  rintro ⟨H0, as, en, st, b, st', e, w, hm, k⟩
  unfold mAnd at hm
  obtain ⟨⟨b1, s1⟩, ha, hm⟩ := Option.bind_eq_some_iff.mp hm
  refine ⟨H0, as, en, st, b1, s1, e, w, ha, fun H1 as1 H1' l1 w1 => ?_⟩
  dsimp only at hm ⊢
  split
  · rename_i h
    rw [if_pos h] at hm
    exact ⟨H1, as1, en, s1, b, st', e.mono l1, w1, hm, k.mono l1⟩
  · rename_i h
    rw [if_neg h] at hm
    cases hm
    exact k H1 as1 H1' l1 w1
theorem bm_or : bM C (mOr mc md) σ H R → tOr (bM C mc) (bM C md) σ H R := by
  rintro ⟨H0, as, en, st, b, st', e, w, hm, k⟩
  unfold mOr at hm
  obtain ⟨⟨b1, s1⟩, ha, hm⟩ := Option.bind_eq_some_iff.mp hm
  refine ⟨H0, as, en, st, b1, s1, e, w, ha, fun H1 as1 H1' l1 w1 => ?_⟩
  dsimp only at hm ⊢
  split
  · rename_i h
    rw [if_pos h] at hm
    cases hm
    exact k H1 as1 H1' l1 w1
  · rename_i h
    rw [if_neg h] at hm
    exact ⟨H1, as1, en, s1, b, st', e.mono l1, w1, hm, k.mono l1⟩
theorem bm_not : bM C (mNot mc) σ H R → tNot (bM C mc) σ H R := by
  rintro ⟨H0, as, en, st, b, st', e, w, hm, k⟩
  unfold mNot at hm
  obtain ⟨⟨b1, s1⟩, ha, hm⟩ := Option.bind_eq_some_iff.mp hm
  cases hm
  exact ⟨H0, as, en, st, b1, s1, e, w, ha, fun H1 as1 H1' l1 w1 => k H1 as1 H1' l1 w1⟩
theorem em_and : eM C (mAndV ma mb) σ H Q → tAndV (eM C ma) (eM C mb) σ H Q := by
  rintro ⟨H0, as, en, st, d, st', e, w, hm, k⟩
  unfold mAndV at hm
  obtain ⟨⟨b1, s1⟩, ha, hm⟩ := Option.bind_eq_some_iff.mp hm
  refine ⟨H0, as, en, st, b1, s1, e, w, ha, fun x H1 as1 H1' l1 w1 r1 => ?_⟩
  dsimp only at hm
  split at hm
  · exact ⟨true, rep_bl r1, H1, as1, en, s1, d, st', e.mono l1, w1, hm, k.mono l1⟩
  · cases hm
    exact ⟨false, rep_bl r1, k _ H1 as1 H1' l1 w1 rfl⟩
  · cases hm
theorem em_or : eM C (mOrV ma mb) σ H Q → tOrV (eM C ma) (eM C mb) σ H Q := by
  rintro ⟨H0, as, en, st, d, st', e, w, hm, k⟩
  unfold mOrV at hm
  obtain ⟨⟨b1, s1⟩, ha, hm⟩ := Option.bind_eq_some_iff.mp hm
  refine ⟨H0, as, en, st, b1, s1, e, w, ha, fun x H1 as1 H1' l1 w1 r1 => ?_⟩
  dsimp only at hm
  split at hm
  · cases hm
    exact ⟨true, rep_bl r1, k _ H1 as1 H1' l1 w1 rfl⟩
  · exact ⟨false, rep_bl r1, H1, as1, en, s1, d, st', e.mono l1, w1, hm, k.mono l1⟩
  · cases hm
theorem em_not : eM C (mNotV ma) σ H Q → tNotV (eM C ma) σ H Q := by
  rintro ⟨H0, as, en, st, d, st', e, w, hm, k⟩
  unfold mNotV at hm
  obtain ⟨⟨b1, s1⟩, ha, hm⟩ := Option.bind_eq_some_iff.mp hm
  refine ⟨H0, as, en, st, b1, s1, e, w, ha, fun x H1 as1 H1' l1 w1 r1 => ?_⟩
  dsimp only at hm
  split at hm
  · cases hm
    exact ⟨_, rep_bl r1, k _ H1 as1 H1' l1 w1 rfl⟩
  · cases hm
theorem em_if : eM C (mIf mc ma mb) σ H Q → tIf (bM C mc) (eM C ma) (eM C mb) σ H Q := by
  rintro ⟨H0, as, en, st, d, st', e, w, hm, k⟩
  unfold mIf at hm
  obtain ⟨⟨b1, s1⟩, ha, hm⟩ := Option.bind_eq_some_iff.mp hm
  refine ⟨H0, as, en, st, b1, s1, e, w, ha, fun H1 as1 H1' l1 w1 => ?_⟩
  dsimp only at hm ⊢
  split
  · rename_i h
    rw [if_pos h] at hm
    exact ⟨H1, as1, en, s1, d, st', e.mono l1, w1, hm, k.mono l1⟩
  · rename_i h
    rw [if_neg h] at hm
    exact ⟨H1, as1, en, s1, d, st', e.mono l1, w1, hm, k.mono l1⟩
end
end My


namespace My
open PySem PySem.Spec PyProof.Rows L2

/-! ### targets -/
inductive Tg where
  | name (i : Nat) | tup (ts : List Tg)
mutual
def Tg.slots : Tg → List Nat
  | .name i => [i]
  | .tup ts => Tg.slotss ts
def Tg.slotss : List Tg → List Nat
  | [] => []
  | t :: ts => t.slots ++ Tg.slotss ts
end
mutual
def setTg : Tg → D → En → Option En
  | .name i, d, en => some (en.set i (some d))
  | .tup ts, .tup ds, en => setTgs ts ds en
  | .tup _, _, _ => none
def setTgs : List Tg → List D → En → Option En
  | [], [], en => some en
  | t :: ts, d :: ds, en => (setTg t d en).bind fun en' => setTgs ts ds en'
  | _, _, _ => none
end
def SlotEq (L : List Nat) (σ σ' : L2.St) : Prop := σ'.length = σ.length ∧ ∀ (i : Nat), i ∉ L → σ'[i]? = σ[i]?
theorem SlotEq.refl {L : List Nat} {σ : L2.St} : SlotEq L σ σ := ⟨rfl, fun _ _ => rfl⟩
theorem SlotEq.trans {L L' L3 : List Nat} {σ σ1 σ2 : L2.St} (a : SlotEq L σ σ1) (b : SlotEq L' σ1 σ2) (h : ∀ i, i ∈ L ∨ i ∈ L' → i ∈ L3) : SlotEq L3 σ σ2 :=
  ⟨b.1.trans a.1, fun i hi => (b.2 i fun z => hi (h i (.inr z))).trans (a.2 i fun z => hi (h i (.inl z)))⟩
def tgM (C : Cy) (T : Tg) : TG := fun v σ H Q => ∃ H0 as en st d en', EnR C H0 as en σ ∧ WR C H0 as st H ∧ Rep C H0 as d v ∧ setTg T d en = some en' ∧ ∀ σ', SlotEq T.slots σ σ' → EnR C H0 as en' σ' → Q σ' H
def tgsM (C : Cy) (T : List Tg) : TGs := fun vs σ H Q => ∃ H0 as en st ds en', EnR C H0 as en σ ∧ WR C H0 as st H ∧ Reps C H0 as ds vs ∧ setTgs T ds en = some en' ∧ ∀ σ', SlotEq (Tg.slotss T) σ σ' → EnR C H0 as en' σ' → Q σ' H
abbrev MG := D → En → Sto → Option (En × Sto)
def gM (C : Cy) (g : MG) : TG := fun v σ H Q => ∃ H0 as en st d en' st', EnR C H0 as en σ ∧ WR C H0 as st H ∧ Rep C H0 as d v ∧ g d en st = some (en', st') ∧ KS C H0 as st' en' Q
abbrev MGs := List D → En → Sto → Option (En × Sto)
def gsM (C : Cy) (g : MGs) : TGs := fun vs σ H Q => ∃ H0 as en st ds en' st', EnR C H0 as en σ ∧ WR C H0 as st H ∧ Reps C H0 as ds vs ∧ g ds en st = some (en', st') ∧ KS C H0 as st' en' Q
def mgT (T : Tg) : MG := fun d en st => (setTg T d en).map (·, st)
def mgName (i : Nat) : MG := fun d en st => some (en.set i (some d), st)
def mgSub (a b : ME) (f : D → D → D → Sto → Option Sto) : MG := fun d en st => (a en st).bind fun p => (b en p.2).bind fun q => (f p.1 q.1 d q.2).map fun s => (en, s)
def mgNil : MGs := fun ds en st => match ds with
  | [] => some (en, st)
  | _ => none
def mgCons (g : MG) (r : MGs) : MGs := fun ds en st => match ds with
  | d :: ds => (g d en st).bind fun p => r ds p.1 p.2
  | [] => none
def mgTup (n : Nat) (g : MGs) : MG := fun d en st => match d with
  | .tup ds => if ds.length = n then g ds en st else none
  | _ => none
section
variable {X : Cx} {e : Expr} {es : List Expr}
theorem PG.imp {t t' : TG} (h : PG X e t) (i : ∀ v σ H Q, t' v σ H Q → t v σ H Q) : PG X e t' := ⟨fun pins s σ H v u Q I r w => h.run pins s σ H v u Q I r (i v σ H Q w)⟩
theorem PGs.imp {t t' : TGs} (h : PGs X es t) (i : ∀ v σ H Q, t' v σ H Q → t v σ H Q) : PGs X es t' := ⟨fun pins s σ H v u Q I r w => h.run pins s σ H v u Q I r (i v σ H Q w)⟩
end
section
variable {C : Cy} {v : V} {vs : List V} {σ : L2.St} {H : Hp} {Q : L2.St → Hp → Prop}
theorem tg_name {i : Nat} : tgM C (.name i) v σ H Q → gName i v σ H Q := by
  rintro ⟨H0, as, en, st, d, en', e, w, r, hs, k⟩
  cases hs
  exact k _ ⟨List.length_set, fun j hj => List.getElem?_set_ne (fun z => hj (by simp [Tg.slots, z]))⟩ (e.set r i)
theorem tgs_nil : tgsM C [] vs σ H Q → gNil vs σ H Q := by
  rintro ⟨H0, as, en, st, ds, en', e, w, r, hs, k⟩
  cases ds with
  | nil =>
    cases hs
    exact ⟨r, k σ .refl e⟩
  | cons _ _ => cases hs
theorem tgs_cons {t : Tg} {ts : List Tg} : tgsM C (t :: ts) vs σ H Q → gCons (tgM C t) (tgsM C ts) vs σ H Q := by
  rintro ⟨H0, as, en, st, ds, en', e, w, r, hs, k⟩
  cases ds with
  | nil => cases hs
  | cons d ds =>
    obtain ⟨en1, h1, h2⟩ := Option.bind_eq_some_iff.mp hs
    obtain ⟨x, xs, rfl, r1, r2⟩ := r
    refine ⟨x, xs, rfl, H0, as, en, st, d, en1, e, w, r1, h1, fun σ1 s1 e1 => ?_⟩
    refine ⟨H0, as, en1, st, ds, en', e1, w, r2, h2, fun σ2 s2 e2 => ?_⟩
    exact k σ2 (SlotEq.trans (L3 := Tg.slotss (t :: ts)) s1 s2 fun i hi => by simpa [Tg.slotss] using hi) e2
theorem tg_tup {ts : List Tg} : tgM C (.tup ts) v σ H Q → gTup C.K ts.length (tgsM C ts) v σ H Q := by
  rintro ⟨H0, as, en, st, d, en', e, w, r, hs, k⟩
  cases d with
  | tup ds =>
    obtain ⟨a, vs, rfl, hq, hr⟩ := r
    have hl : ∀ (ts : List Tg) (ds : List D) (en en' : En), setTgs ts ds en = some en' → ds.length = ts.length := by
      intro ts
      induction ts with
      | nil => intro ds en en' h; cases ds with
        | nil => rfl
        | cons _ _ => cases h
      | cons t ts ih => intro ds en en' h; cases ds with
        | nil => cases h
        | cons d ds =>
          obtain ⟨en1, _, h2⟩ := Option.bind_eq_some_iff.mp h
          simp [ih ds en1 en' h2]
    exact ⟨a, vs, rfl, same_seqT w.ex hq, by rw [← hr.length]; exact hl ts ds en en' hs, H0, as, en, st, ds, en', e, w, hr, hs, k⟩
  | _ => cases hs
theorem gm_T {T : Tg} : gM C (mgT T) v σ H Q → tgM C T v σ H Q := by
  rintro ⟨H0, as, en, st, d, en', st', e, w, r, hs, k⟩
  obtain ⟨en1, h1, e1⟩ := Option.map_eq_some_iff.mp hs
  cases e1
  exact ⟨H0, as, en, st, d, _, e, w, r, h1, fun σ' s' e' => k σ' H0 as H Le.refl w e'⟩
theorem gm_name {i : Nat} : gM C (mgName i) v σ H Q → gName i v σ H Q := by
  rintro ⟨H0, as, en, st, d, en', st', e, w, r, hs, k⟩
  cases hs
  exact k _ H0 as H Le.refl w (e.set r i)
theorem gs_nil : gsM C mgNil vs σ H Q → gNil vs σ H Q := by
  rintro ⟨H0, as, en, st, ds, en', st', e, w, r, hs, k⟩
  cases ds with
  | nil =>
    cases hs
    exact ⟨r, k σ H0 as H Le.refl w e⟩
  | cons _ _ => cases hs
theorem gs_cons {t : MG} {ts : MGs} : gsM C (mgCons t ts) vs σ H Q → gCons (gM C t) (gsM C ts) vs σ H Q := by
  rintro ⟨H0, as, en, st, ds, en', st', e, w, r, hs, k⟩
  cases ds with
  | nil => cases hs
  | cons d ds =>
    obtain ⟨⟨en1, s1⟩, h1, h2⟩ := Option.bind_eq_some_iff.mp hs
    obtain ⟨x, xs, rfl, r1, r2⟩ := r
    refine ⟨x, xs, rfl, H0, as, en, st, d, en1, s1, e, w, r1, h1, fun σ1 H1 as1 H1' l1 w1 e1 => ?_⟩
    exact ⟨H1, as1, en1, s1, ds, en', st', e1, w1, r2.mono l1, h2, k.mono l1⟩
theorem gm_tup {n : Nat} {ts : MGs} : gM C (mgTup n ts) v σ H Q → gTup C.K n (gsM C ts) v σ H Q := by
  rintro ⟨H0, as, en, st, d, en', st', e, w, r, hs, k⟩
  cases d with
  | tup ds =>
    obtain ⟨a, vs, rfl, hq, hr⟩ := r
    unfold mgTup at hs
    dsimp only at hs
    split at hs
    · rename_i hl
      exact ⟨a, vs, rfl, same_seqT w.ex hq, by rw [← hr.length]; exact hl, H0, as, en, st, ds, en', st', e, w, hr, hs, k⟩
    · cases hs
  | _ => cases hs
def OkS (C : Cy) (t : TSet) (f : D → D → D → Sto → Option Sto) : Prop := ∀ H0 as st H a b c x y z st' Q, WR C H0 as st H → Rep C H0 as a x → Rep C H0 as b y → Rep C H0 as c z → f a b c st = some st' → (∀ H0' as' H', Le H0 as H0' as' → WR C H0' as' st' H' → Q H') → t x y z H Q
theorem gm_sub {a b : ME} {t : TSet} {f : D → D → D → Sto → Option Sto} (ok : OkS C t f) : gM C (mgSub a b f) v σ H Q → gSub (eM C a) (eM C b) t v σ H Q := by
  rintro ⟨H0, as, en, st, d, en', st', e, w, r, hs, k⟩
  unfold mgSub at hs
  obtain ⟨⟨da, s1⟩, ha, hs⟩ := Option.bind_eq_some_iff.mp hs
  obtain ⟨⟨db, s2⟩, hb, hs⟩ := Option.bind_eq_some_iff.mp hs
  obtain ⟨s3, h3, e3⟩ := Option.map_eq_some_iff.mp hs
  cases e3
  refine ⟨H0, as, en, st, da, s1, e, w, ha, fun x H1 as1 H1' l1 w1 r1 => ?_⟩
  refine ⟨H1, as1, en, s1, db, s2, e.mono l1, w1, hb, fun y H2 as2 H2' l2 w2 r2 => ?_⟩
  exact ok H2 as2 s2 H2' da db d x y v _ _ w2 (r1.mono l2) r2 (r.mono (l1.trans l2)) h3 fun H3 as3 H3' l3 w3 => k σ H3 as3 H3' ((l1.trans l2).trans l3) w3 (e.mono ((l1.trans l2).trans l3))
def fSetL (a b c : D) (st : Sto) : Option Sto := match a, b with
  | .loc n, .int k => match st[n]? with
    | some (.lst ds) => (ixN ds.length k).map fun j => st.set n (.lst (ds.set j c))
    | _ => none
  | _, _ => none
theorem ok_setL : OkS C rSetL fSetL := by
  intro H0 as st H a b c x y z st' Q w rx ry rz hf k
  unfold fSetL at hf
  split at hf
  · split at hf
    · rename_i he
      obtain ⟨j, hj, e⟩ := Option.map_eq_some_iff.mp hf
      cases e
      cases rep_int ry
      obtain ⟨a', us, ha, hn, h1, hr⟩ := w.loc he
      obtain ⟨a'', ha', rfl⟩ := rx
      rw [ha] at ha'
      cases ha'
      exact ⟨a', us, _, j, rfl, rfl, h1, by rw [← hr.length]; exact hj, k H0 as _ Le.refl (w.put ha hn ⟨_, rfl, Reps.set rz j hr⟩)⟩
    · cases hf
  · cases hf
end

/-! ### statements -/
def mNext : MS := fun en st => some (.nx en, st)
def mBreak : MS := fun en st => some (.bk en, st)
def mCont : MS := fun en st => some (.ct en, st)
def mNever : MS := fun _ _ => none
def mSeq (a b : MS) : MS := fun en st => (a en st).bind fun p => match p.1 with
  | .nx en' => b en' p.2
  | o => some (o, p.2)
def mRet (m : ME) : MS := fun en st => (m en st).bind fun p => some (.rt p.1, p.2)
def mRetN : MS := fun _ st => some (.rt .non, st)
def mDrop (m : ME) : MS := fun en st => (m en st).bind fun p => some (.nx en, p.2)
def mIfS (c : MB) (a b : MS) : MS := fun en st => (c en st).bind fun p => if p.1 = true then a en p.2 else b en p.2
def mAsg (m : ME) (g : MG) : MS := fun en st => (m en st).bind fun p => (g p.1 en p.2).bind fun q => some (.nx q.1, q.2)
def mAug (i : Nat) (m : ME) (f : D → D → Sto → Option (D × Sto)) : MS := fun en st => match en[i]? with
  | some (some x) => (m en st).bind fun p => (f x p.1 p.2).bind fun q => some (.nx (en.set i (some q.1)), q.2)
  | _ => none
def mPar (i j : Nat) (a : MA) : MS := fun en st => (a en st).bind fun p => match p.1 with
  | [x, y] => some (.nx ((en.set i (some x)).set j (some y)), p.2)
  | _ => none
def mWhN (c : MB) (b : MS) : Nat → MS
  | 0, _, _ => none
  | n + 1, en, st => (c en st).bind fun p => if p.1 = true then (b en p.2).bind fun q => match q.1 with
      | .nx e => mWhN c b n e q.2
      | .ct e => mWhN c b n e q.2
      | .bk e => some (.nx e, q.2)
      | .rt d => some (.rt d, q.2)
    else some (.nx en, p.2)
noncomputable def mWh (c : MB) (b : MS) : MS := fun en st => open Classical in if h : ∃ p : Nat × (Out × Sto), mWhN c b p.1 en st = some p.2 then some (Classical.choose h).2 else none
theorem mWhN_mono {c : MB} {b : MS} : ∀ {n m : Nat} {en : En} {st : Sto} {r : Out × Sto}, mWhN c b n en st = some r → n ≤ m → mWhN c b m en st = some r
  | 0, _, _, _, _, h, _ => by cases h
  | n + 1, 0, _, _, _, _, hl => by omega
  | n + 1, m + 1, en, st, r, h, hl => by
    unfold mWhN at h ⊢
    obtain ⟨⟨b1, s1⟩, h1, h⟩ := Option.bind_eq_some_iff.mp h
    refine Option.bind_eq_some_iff.mpr ⟨_, h1, ?_⟩
    dsimp only at h ⊢
    split
    · rename_i hb
      rw [if_pos hb] at h
      obtain ⟨⟨o, s2⟩, h2, h⟩ := Option.bind_eq_some_iff.mp h
      refine Option.bind_eq_some_iff.mpr ⟨_, h2, ?_⟩
      cases o with
      | nx e => exact mWhN_mono h (by omega)
      | ct e => exact mWhN_mono h (by omega)
      | bk e => exact h
      | rt d => exact h
    · rename_i hb
      rw [if_neg hb] at h
      exact h
theorem mWh_of {c : MB} {b : MS} {n : Nat} {en : En} {st : Sto} {r : Out × Sto} (h : mWhN c b n en st = some r) : mWh c b en st = some r := by
  unfold mWh
  have hx : ∃ p : Nat × (Out × Sto), mWhN c b p.1 en st = some p.2 := ⟨(n, r), h⟩
  rw [dif_pos hx]
  have h2 := Classical.choose_spec hx
  have a := mWhN_mono h (Nat.le_max_left n (Classical.choose hx).1)
  have b' := mWhN_mono h2 (Nat.le_max_right n (Classical.choose hx).1)
  rw [b'] at a
  exact a
theorem mWh_to {c : MB} {b : MS} {en : En} {st : Sto} {r : Out × Sto} (h : mWh c b en st = some r) : ∃ n, mWhN c b n en st = some r := by
  unfold mWh at h
  split at h
  · rename_i hx
    have h2 := Classical.choose_spec hx
    have e := Option.some.inj h
    rw [e] at h2
    exact ⟨_, h2⟩
  · cases h
section
variable {C : Cy} {N : Ends} {σ : L2.St} {H : Hp} {ma mb : MS} {m : ME} {mc : MB}
theorem sm_next : sM C mNext N σ H → tNext N σ H := by
  rintro ⟨H0, as, en, st, o, st', e, w, hm, k⟩
  cases hm
  exact k σ H0 as H Le.refl w e
theorem sm_break : sM C mBreak N σ H → tBreak N σ H := by
  rintro ⟨H0, as, en, st, o, st', e, w, hm, k⟩
  cases hm
  exact k σ H0 as H Le.refl w e
theorem sm_cont : sM C mCont N σ H → tCont N σ H := by
  rintro ⟨H0, as, en, st, o, st', e, w, hm, k⟩
  cases hm
  exact k σ H0 as H Le.refl w e
theorem sm_never : sM C mNever N σ H → tNever N σ H := by
  rintro ⟨H0, as, en, st, o, st', e, w, hm, k⟩
  cases hm
theorem sm_seq : sM C (mSeq ma mb) N σ H → tSeq (sM C ma) (sM C mb) N σ H := by
  rintro ⟨H0, as, en, st, o, st', e, w, hm, k⟩
  unfold mSeq at hm
  obtain ⟨⟨o1, s1⟩, ha, hm⟩ := Option.bind_eq_some_iff.mp hm
  refine ⟨H0, as, en, st, o1, s1, e, w, ha, ?_⟩
  cases o1 with
  | nx en1 =>
    intro σ1 H1 as1 H1' l1 w1 e1
    exact ⟨H1, as1, en1, s1, o, st', e1, w1, hm, k.mono l1⟩
  | rt d => cases hm; exact k
  | bk d => cases hm; exact k
  | ct d => cases hm; exact k
theorem sm_ret : sM C (mRet m) N σ H → tRet (eM C m) N σ H := by
  rintro ⟨H0, as, en, st, o, st', e, w, hm, k⟩
  unfold mRet at hm
  obtain ⟨⟨d, s1⟩, ha, hm⟩ := Option.bind_eq_some_iff.mp hm
  cases hm
  exact ⟨H0, as, en, st, d, s1, e, w, ha, k⟩
theorem sm_retN : sM C mRetN N σ H → tRetN N σ H := by
  rintro ⟨H0, as, en, st, o, st', e, w, hm, k⟩
  cases hm
  exact k .non H0 as H Le.refl w rfl
theorem sm_drop : sM C (mDrop m) N σ H → tDrop (eM C m) N σ H := by
  rintro ⟨H0, as, en, st, o, st', e, w, hm, k⟩
  unfold mDrop at hm
  obtain ⟨⟨d, s1⟩, ha, hm⟩ := Option.bind_eq_some_iff.mp hm
  cases hm
  exact ⟨H0, as, en, st, d, s1, e, w, ha, fun v H1 as1 H1' l1 w1 _ => k σ H1 as1 H1' l1 w1 (e.mono l1)⟩
theorem sm_if : sM C (mIfS mc ma mb) N σ H → tIfS (bM C mc) (sM C ma) (sM C mb) N σ H := by
  rintro ⟨H0, as, en, st, o, st', e, w, hm, k⟩
  unfold mIfS at hm
  obtain ⟨⟨b1, s1⟩, ha, hm⟩ := Option.bind_eq_some_iff.mp hm
  refine ⟨H0, as, en, st, b1, s1, e, w, ha, fun H1 as1 H1' l1 w1 => ?_⟩
  dsimp only at hm ⊢
  split
  · rename_i h
    rw [if_pos h] at hm
    exact ⟨H1, as1, en, s1, o, st', e.mono l1, w1, hm, k.mono l1⟩
  · rename_i h
    rw [if_neg h] at hm
    exact ⟨H1, as1, en, s1, o, st', e.mono l1, w1, hm, k.mono l1⟩
theorem sm_asg {g : MG} : sM C (mAsg m g) N σ H → tAsg (eM C m) (gM C g) N σ H := by
  rintro ⟨H0, as, en, st, o, st', e, w, hm, k⟩
  unfold mAsg at hm
  obtain ⟨⟨d, s1⟩, ha, hm⟩ := Option.bind_eq_some_iff.mp hm
  obtain ⟨⟨en2, s2⟩, hb, hm⟩ := Option.bind_eq_some_iff.mp hm
  cases hm
  refine ⟨H0, as, en, st, d, s1, e, w, ha, fun v H1 as1 H1' l1 w1 r1 => ?_⟩
  exact ⟨H1, as1, en, s1, d, en2, s2, e.mono l1, w1, r1, hb, KS.mono l1 k⟩
theorem sm_aug {i : Nat} {f : D → D → Sto → Option (D × Sto)} {t : TIp} (ok : Ok2 C t f) : sM C (mAug i m f) N σ H → tAug i (eM C m) t N σ H := by
  rintro ⟨H0, as, en, st, o, st', e, w, hm, k⟩
  unfold mAug at hm
  split at hm
  · rename_i x hx
    obtain ⟨⟨d, s1⟩, ha, hm⟩ := Option.bind_eq_some_iff.mp hm
    obtain ⟨⟨d2, s2⟩, hb, hm⟩ := Option.bind_eq_some_iff.mp hm
    cases hm
    obtain ⟨v, hv, rv⟩ := e.at_ i x hx
    refine ⟨v, hv, H0, as, en, st, d, s1, e, w, ha, fun y H1 as1 H1' l1 w1 r1 => ?_⟩
    exact ok H1 as1 s1 H1' x d v y d2 _ _ w1 (rv.mono l1) r1 hb fun z H2 as2 H2' l2 w2 r2 => k _ H2 as2 H2' (l1.trans l2) w2 ((e.mono (l1.trans l2)).set r2 i)
  · cases hm
theorem sm_par {i j : Nat} {a : MA} : sM C (mPar i j a) N σ H → tPar i j (aM C a) N σ H := by
  rintro ⟨H0, as, en, st, o, st', e, w, hm, k⟩
  unfold mPar at hm
  obtain ⟨⟨ds, s1⟩, ha, hm⟩ := Option.bind_eq_some_iff.mp hm
  dsimp only at hm
  split at hm
  · cases hm
    refine ⟨H0, as, en, st, _, _, e, w, ha, fun vs H1 as1 H1' l1 w1 r1 => ?_⟩
    obtain ⟨x, y, rfl, rx, ry⟩ := reps2 r1
    exact ⟨x, y, rfl, k _ H1 as1 H1' l1 w1 (((e.mono l1).set rx i).set ry j)⟩
  · cases hm
theorem sm_while : sM C (mWh mc ma) N σ H → tWhile (bM C mc) (sM C ma) N σ H := by
  rintro ⟨H0, as, en, st, o, st', e, w, hm, k⟩
  obtain ⟨n, hn⟩ := mWh_to hm
  refine ⟨fun m σ H => ∃ H1 as1 en1 st1, Le H0 as H1 as1 ∧ EnR C H1 as1 en1 σ ∧ WR C H1 as1 st1 H ∧ mWhN mc ma m en1 st1 = some (o, st'), ⟨n, H0, as, en, st, Le.refl, e, w, hn⟩, ?_⟩
  rintro m σ1 Hx ⟨H1, as1, en1, st1, l1, e1, w1, h1⟩
  cases m with
  | zero => cases h1
  | succ m =>
    unfold mWhN at h1
    obtain ⟨⟨b1, s1⟩, hb, h1⟩ := Option.bind_eq_some_iff.mp h1
    refine ⟨H1, as1, en1, st1, b1, s1, e1, w1, hb, fun H2 as2 H2' l2 w2 => ?_⟩
    dsimp only at h1 ⊢
    split
    · rename_i h
      rw [if_pos h] at h1
      obtain ⟨⟨o2, s2⟩, ho, h1⟩ := Option.bind_eq_some_iff.mp h1
      refine ⟨fun σ' H' => ∃ H3 as3 en3 st3, Le H0 as H3 as3 ∧ EnR C H3 as3 en3 σ' ∧ WR C H3 as3 st3 H' ∧ mWhN mc ma m en3 st3 = some (o, st'), fun σ' H' z => ⟨m, Nat.lt_succ_self m, z⟩, ?_⟩
      refine ⟨H2, as2, en1, s1, o2, s2, e1.mono l2, w2, ho, ?_⟩
      cases o2 with
      | nx e' => exact fun σ3 H3 as3 H3' l3 w3 e3 => ⟨H3, as3, e', s2, (l1.trans l2).trans l3, e3, w3, h1⟩
      | ct e' => exact fun σ3 H3 as3 H3' l3 w3 e3 => ⟨H3, as3, e', s2, (l1.trans l2).trans l3, e3, w3, h1⟩
      | bk e' =>
        cases h1
        exact fun σ3 H3 as3 H3' l3 w3 e3 => k σ3 H3 as3 H3' ((l1.trans l2).trans l3) w3 e3
      | rt d =>
        cases h1
        exact fun v H3 as3 H3' l3 w3 r3 => k v H3 as3 H3' ((l1.trans l2).trans l3) w3 r3
    · rename_i h
      rw [if_neg h] at h1
      cases h1
      exact k σ1 H2 as2 H2' (l1.trans l2) w2 (e1.mono l2)
end
end My


namespace My
open PySem PySem.Spec PyProof.Rows L2

/-! ### what is walked -/
structure Src where
  ds : List D
  chk : Option Nat
def Src.ok (s : Src) (st : Sto) : Prop := match s.chk with
  | none => True
  | some n => st[n]? = some (.lst s.ds)
def ItOk (C : Cy) (J : It) (s : Src) (H0 : Hb) (as : List Addr) : Prop := ∀ H1 as1 st H (i : Nat), Le H0 as H1 as1 → WR C H1 as1 st H → s.ok st →
  (∀ d, s.ds[i]? = some d → J.go i H ∧ ∀ x H', J.yld i H x H' → ∃ H2 as2, Le H1 as1 H2 as2 ∧ WR C H2 as2 st H' ∧ Rep C H2 as2 d x) ∧ (s.ds.length ≤ i → J.stop i H)
theorem Le.gset {H H1 : Hb} {as as1 : List Addr} (l : Le H as H1 as1) (g : List (Addr × HO)) : Le ⟨H.h, g⟩ as ⟨H1.h, g⟩ as1 := ⟨l.same, rfl, l.pre⟩
abbrev MI := En → Sto → Option (Src × Sto)
def iM (C : Cy) (m : MI) : TI := fun σ H R => ∃ H0 as en st s st', EnR C H0 as en σ ∧ WR C H0 as st H ∧ m en st = some (s, st') ∧ ∀ J H0' as' H', Le H0 as H0' as' → WR C H0' as' st' H' → (∀ g, ItOk C J s ⟨H0'.h, g⟩ as') → R J H'
def srcOf (d : D) (st : Sto) : Option Src := match d with
  | .tup ds => some ⟨ds, none⟩
  | .lst ds => some ⟨ds, none⟩
  | .fro ds => some ⟨ds, none⟩
  | .loc n => match st[n]? with
    | some (.lst ds) => some ⟨ds, some n⟩
    | _ => none
  | _ => none
def miSeq (m : ME) : MI := fun en st => (m en st).bind fun p => (srcOf p.1 p.2).map (·, p.2)
def rngD (lo : Int) (n : Nat) : List D := (List.range n).map fun (i : Nat) => D.int (lo + (i : Int))
def miRng1 (m : MA) : MI := fun en st => (m en st).bind fun p => match p.1 with
  | [.int j] => if small j = true then some (⟨rngD 0 j.toNat, none⟩, p.2) else none
  | _ => none
def miRng2 (m : MA) : MI := fun en st => (m en st).bind fun p => match p.1 with
  | [.int i, .int j] => if small i = true ∧ small j = true then some (⟨rngD i (j - i).toNat, none⟩, p.2) else none
  | _ => none
section
variable {X : Cx} {tg : Expr}
def iSeq (K : PySem.W.Frag) (tl : TE) : TI := fun σ H R => tl σ H fun x H1 => ∃ a, x = .ref a ∧ (((∃ xs, SqL K H1 a xs) ∧ R (Itl K a) H1) ∨ ((∃ xs, SqT K H1 a xs) ∧ R (Itt K a) H1))
theorem pi_seq {l : Expr} {tl : TE} (hl : PE X l tl) : PI X tg l (iSeq X.K tl) := by
  refine ⟨fun pins s σ H R I h => ?_⟩
  refine thn (hl.run pins s σ H _ I h) fun v s1 ⟨x, H1, I1, r1, q1⟩ => ?_
  obtain ⟨a, e, q1⟩ := q1
  subst e
  cases r1
  rcases q1 with ⟨⟨xs, hq⟩, q⟩ | ⟨⟨xs, hq⟩, q⟩
  · obtain ⟨its, rv, p, hz⟩ := I1.list hq
    refine wpAny_pyIter_list p.isList ?_
    refine ⟨s1.heap.objs.size, [s1.heap.objs.size], _, _, H1, rfl, I1.kept (t' := s1.toks) fun b o e => Heap.get?_push_of_some _ e, turn_list a _, ⟨_, Heap.get?_push_size _ rfl, rfl, rfl⟩, fun b hb => ?_, q⟩
    have e : b = s1.heap.objs.size := by simpa using hb
    subst e
    exact I1.fpOk (Nat.le_refl _) (I1.hok.fresh (Nat.le_refl _))
  · obtain ⟨its, rv, p, hz⟩ := I1.tuple hq
    refine wpAny_pyIter_tuple (show s1.heap.IsTuple a its.toArray from p) ?_
    refine ⟨s1.heap.objs.size, [s1.heap.objs.size], _, _, H1, rfl, I1.kept (t' := s1.toks) fun b o e => Heap.get?_push_of_some _ e, turn_tuple a _, ⟨_, Heap.get?_push_size _ rfl, rfl, rfl⟩, fun b hb => ?_, q⟩
    have e : b = s1.heap.objs.size := by simpa using hb
    subst e
    exact I1.fpOk (Nat.le_refl _) (I1.hok.fresh (Nat.le_refl _))
end
section
variable {C : Cy} {σ : L2.St} {H : Hp} {R : It → Hp → Prop} {m : ME} {ma : MA}
theorem itOk_list {a : Addr} {ds : List D} {vs : List V} {H0 : Hb} {as : List Addr} {c : Option Nat} (hs : ∀ H1 as1 st H, Le H0 as H1 as1 → WR C H1 as1 st H → (⟨ds, c⟩ : Src).ok st → ∃ vs, SqL C.K H a vs ∧ Reps C H1 as1 ds vs)  : ItOk C (Itl C.K a) ⟨ds, c⟩ H0 as := by
  intro H1 as1 st H i l w hk
  obtain ⟨vs, q, r⟩ := hs H1 as1 st H l w hk
  refine ⟨fun d hd => ?_, fun hi => ⟨vs, q, by rw [← r.length]; exact hi⟩⟩
  obtain ⟨v, hv, rv⟩ := r.get hd
  refine ⟨⟨vs, v, q, hv⟩, fun x H' y => ?_⟩
  obtain ⟨rfl, hx⟩ := y
  have e := hx vs q
  rw [hv] at e
  cases e
  exact ⟨H1, as1, Le.refl, w, rv⟩
theorem itOk_tup {a : Addr} {ds : List D} {vs : List V} {H0 : Hb} {as : List Addr} (q0 : SqT C.K H0.h a vs) (r0 : Reps C H0 as ds vs) : ItOk C (Itt C.K a) ⟨ds, none⟩ H0 as := by
  intro H1 as1 st H i l w _
  have q := same_seqT w.ex (same_seqT l.same q0)
  have r := r0.mono l
  refine ⟨fun d hd => ?_, fun hi => ⟨vs, q, by rw [← r.length]; exact hi⟩⟩
  obtain ⟨v, hv, rv⟩ := r.get hd
  refine ⟨⟨vs, v, q, hv⟩, fun x H' y => ?_⟩
  obtain ⟨rfl, hx⟩ := y
  have e := hx vs q
  rw [hv] at e
  cases e
  exact ⟨H1, as1, Le.refl, w, rv⟩
theorem itOk_rng {lo : Int} {n : Nat} {H0 : Hb} {as : List Addr} : ItOk C (Itr lo n) ⟨rngD lo n, none⟩ H0 as := by
  intro H1 as1 st H i l w _
  refine ⟨fun d hd => ?_, fun hi => ?_⟩
  · unfold rngD at hd
    rw [List.getElem?_map] at hd
    obtain ⟨j, hj, rfl⟩ := Option.map_eq_some_iff.mp hd
    obtain ⟨h1, h2⟩ := List.getElem?_eq_some_iff.mp hj
    rw [List.getElem_range] at h2
    subst h2
    rw [List.length_range] at h1
    refine ⟨h1, fun x H' y => ?_⟩
    obtain ⟨rfl, rfl⟩ := y
    exact ⟨H1, as1, Le.refl, w, rfl⟩
  · unfold rngD at hi
    have hi : n ≤ i := by simpa using hi
    exact hi
mutual
theorem Rep.gset {H0 : Hb} {as : List Addr} (g : List (Addr × HO)) : ∀ {d : D} {v : V}, Rep C H0 as d v → Rep C ⟨H0.h, g⟩ as d v
  | .non, _, h => h
  | .bl _, _, h => h
  | .int _, _, h => h
  | .str _, _, h => h
  | .ty _, _, h => h
  | .adr _, _, h => h
  | .tup ds, _, h => by
    obtain ⟨a, vs, e, hs, hr⟩ := h
    exact ⟨a, vs, e, hs, Reps.gset g hr⟩
  | .lst ds, _, h => by
    obtain ⟨a, vs, e, hs, hr⟩ := h
    exact ⟨a, vs, e, hs, Reps.gset g hr⟩
  | .fro ds, _, h => by
    obtain ⟨a, vs, e, hs, hr⟩ := h
    exact ⟨a, vs, e, hs, Reps.gset g hr⟩
  | .loc n, _, h => h
  | .fdk _ _ _, _, h => by
    obtain ⟨a, ob, vs, ha, e, hs, hl, hr⟩ := h
    exact ⟨a, ob, vs, ha, e, hs, hl, Reps.gset g hr⟩
  | .set _, _, h => h
  | .fn _, _, h => h
theorem Reps.gset {H0 : Hb} {as : List Addr} (g : List (Addr × HO)) : ∀ {ds : List D} {vs : List V}, Reps C H0 as ds vs → Reps C ⟨H0.h, g⟩ as ds vs
  | [], _, h => h
  | d :: ds, _, h => by
    obtain ⟨v, r, e, h1, h2⟩ := h
    exact ⟨v, r, e, Rep.gset g h1, Reps.gset g h2⟩
end
theorem RepKV.gset {κ : Type} {H0 : Hb} {as : List Addr} (g : List (Addr × HO)) : ∀ {ds : List (κ × D)} {vs : List (κ × V)}, RepKV C H0 as ds vs → RepKV C ⟨H0.h, g⟩ as ds vs
  | [], _, h => h
  | (k, d) :: ds, _, h => by
    obtain ⟨v, r, e, h1, h2⟩ := h
    exact ⟨v, r, e, h1.gset g, RepKV.gset g h2⟩
theorem RepO.gset {H0 : Hb} {as : List Addr} (g : List (Addr × HO)) : ∀ {o : SO} {u : HO}, RepO C H0 as o u → RepO C ⟨H0.h, g⟩ as o u
  | .dead, _, h => h
  | .lst _, _, ⟨vs, e, h⟩ => ⟨vs, e, h.gset g⟩
  | .dK _, _, ⟨vs, e, h⟩ => ⟨vs, e, h.gset g⟩
  | .dT _, _, ⟨vs, e, h⟩ => ⟨vs, e, h.gset g⟩
theorem EnR.gset {H0 : Hb} {as : List Addr} (g : List (Addr × HO)) {en : En} {σ : L2.St} (e : EnR C H0 as en σ) : EnR C ⟨H0.h, g⟩ as en σ := ⟨e.len, fun i d h => let ⟨v, a, b⟩ := e.at_ i d h; ⟨v, a, b.gset g⟩⟩
theorem im_seq : iM C (miSeq m) σ H R → iSeq C.K (eM C m) σ H R := by
  rintro ⟨H0, as, en, st, s, st', e, w, hm, k⟩
  unfold miSeq at hm
  obtain ⟨⟨d, s1⟩, ha, hm⟩ := Option.bind_eq_some_iff.mp hm
  obtain ⟨s', hs, e'⟩ := Option.map_eq_some_iff.mp hm
  cases e'
  refine ⟨H0, as, en, st, d, _, e, w, ha, fun x H1 as1 H1' l1 w1 r1 => ?_⟩
  cases d with
  | tup ds =>
    cases hs
    obtain ⟨a, vs, rfl, hq, hr⟩ := r1
    exact ⟨a, rfl, .inr ⟨⟨vs, same_seqT w1.ex hq⟩, k _ H1 as1 H1' l1 w1 fun g => itOk_tup hq (hr.gset g)⟩⟩
  | lst ds =>
    cases hs
    obtain ⟨a, vs, rfl, hq, hr⟩ := r1
    exact ⟨a, rfl, .inl ⟨⟨vs, SqL.of (w1.ex _ _ hq)⟩, k _ H1 as1 H1' l1 w1 fun g => itOk_list (vs := vs) fun H2 as2 st2 H2' l2 w2 _ => ⟨vs, SqL.of (w2.ex _ _ (l2.same _ _ hq)), (hr.gset g).mono l2⟩⟩⟩
  | fro ds =>
    cases hs
    obtain ⟨a, vs, rfl, hq, hr⟩ := r1
    exact ⟨a, rfl, .inl ⟨⟨vs, w1.ex.seq hq⟩, k _ H1 as1 H1' l1 w1 fun g => itOk_list (vs := vs) fun H2 as2 st2 H2' l2 w2 _ => ⟨vs, w2.ex.seq (l2.same.seq hq), (hr.gset g).mono l2⟩⟩⟩
  | loc n =>
    obtain ⟨a, ha', rfl⟩ := r1
    unfold srcOf at hs
    dsimp only at hs
    split at hs
    · rename_i he
      cases hs
      obtain ⟨a', vs, hb, _, h1, hr⟩ := w1.loc he
      rw [ha'] at hb
      cases hb
      refine ⟨a, rfl, .inl ⟨⟨vs, SqL.of h1⟩, k _ H1 as1 H1' l1 w1 fun g => itOk_list (vs := vs) fun H2 as2 st2 H2' l2 w2 hk => ?_⟩⟩
      obtain ⟨a'', vs', hb, _, h1, hr⟩ := w2.loc hk
      rw [pre_get l2.pre ha'] at hb
      cases hb
      exact ⟨vs', SqL.of h1, hr⟩
    · cases hs
  | _ => cases hs
theorem im_rng1 : iM C (miRng1 ma) σ H R → iRng1 (aM C ma) σ H R := by
  rintro ⟨H0, as, en, st, s, st', e, w, hm, k⟩
  unfold miRng1 at hm
  obtain ⟨⟨d, s1⟩, ha, hm⟩ := Option.bind_eq_some_iff.mp hm
  dsimp only at hm
  split at hm
  · split at hm
    · rename_i hb
      cases hm
      refine ⟨H0, as, en, st, _, _, e, w, ha, fun vs H1 as1 H1' l1 w1 r1 => ?_⟩
      obtain ⟨v, rfl, rv⟩ := reps1 r1
      cases rep_int rv
      have hs := small_le hb
      have e62 : (2 : Int) ^ 62 = 4611686018427387904 := by decide
      exact ⟨_, rfl, by omega, by omega, k _ H1 as1 H1' l1 w1 fun g => itOk_rng⟩
    · cases hm
  · cases hm
theorem im_rng2 : iM C (miRng2 ma) σ H R → iRng2 (aM C ma) σ H R := by
  rintro ⟨H0, as, en, st, s, st', e, w, hm, k⟩
  unfold miRng2 at hm
  obtain ⟨⟨d, s1⟩, ha, hm⟩ := Option.bind_eq_some_iff.mp hm
  dsimp only at hm
  split at hm
  · split at hm
    · rename_i hb
      cases hm
      refine ⟨H0, as, en, st, _, _, e, w, ha, fun vs H1 as1 H1' l1 w1 r1 => ?_⟩
      obtain ⟨v, v', rfl, rv, rv'⟩ := reps2 r1
      cases rep_int rv
      cases rep_int rv'
      have hs := small_le hb.1
      have ht := small_le hb.2
      have e62 : (2 : Int) ^ 62 = 4611686018427387904 := by decide
      exact ⟨_, _, rfl, by omega, k _ H1 as1 H1' l1 w1 fun g => itOk_rng⟩
    · cases hm
  · cases hm
end

/-! ### for -/
open Classical in
noncomputable def forL (s : Src) (T : Tg) (b : MS) : List D → MS
  | [], en, st => if s.ok st then some (.nx en, st) else none
  | d :: r, en, st => if s.ok st then (setTg T d en).bind fun en' => (b en' st).bind fun q => match q.1 with
      | .nx e => forL s T b r e q.2
      | .ct e => forL s T b r e q.2
      | .bk e => some (.nx e, q.2)
      | .rt d => some (.rt d, q.2)
    else none
noncomputable def mFor (mi : MI) (T : Tg) (b : MS) : MS := fun en st => (mi en st).bind fun p => forL p.1 T b p.1.ds en p.2
theorem Hb.eta (H : Hb) : (⟨H.h, H.g⟩ : Hb) = H := rfl
theorem sm_for {C : Cy} {N : Ends} {σ : L2.St} {H : Hp} {mi : MI} {T : Tg} {mb : MS} : sM C (mFor mi T mb) N σ H → tFor (iM C mi) (tgM C T) (sM C mb) N σ H := by
  rintro ⟨H0, as, en, st, o, st', e, w, hm, k⟩
  unfold mFor at hm
  obtain ⟨⟨s, s1⟩, hs, hm⟩ := Option.bind_eq_some_iff.mp hm
  refine ⟨H0, as, en, st, s, s1, e, w, hs, fun J H1 as1 H1' l1 w1 it => ?_⟩
  have it := it H1.g
  refine ⟨fun i m σ Hx => ∃ H2 as2 en2 st2, Le H1 as1 H2 as2 ∧ EnR C H2 as2 en2 σ ∧ WR C H2 as2 st2 Hx ∧ forL s T mb (s.ds.drop i) en2 st2 = some (o, st') ∧ m = s.ds.length - i,
    ⟨s.ds.length, H1, as1, en, s1, Le.refl, e.mono l1, w1, hm, rfl⟩, ?_⟩
  rintro i m σ1 Hx ⟨H2, as2, en2, st2, l2, e2, w2, h2, rfl⟩
  by_cases hi : i < s.ds.length
  · rw [List.drop_eq_getElem_cons hi] at h2
    unfold forL at h2
    split at h2
    · rename_i hk
      obtain ⟨en3, h3, h2⟩ := Option.bind_eq_some_iff.mp h2
      obtain ⟨⟨o4, st4⟩, h4, h2⟩ := Option.bind_eq_some_iff.mp h2
      obtain ⟨hgo, hy⟩ := (it H2 as2 st2 Hx i l2 w2 hk).1 _ (List.getElem?_eq_getElem hi)
      refine .inr ⟨hgo, fun σ' H' => ∃ H5 as5 en5 st5, Le H1 as1 H5 as5 ∧ EnR C H5 as5 en5 σ' ∧ WR C H5 as5 st5 H' ∧ forL s T mb (s.ds.drop (i + 1)) en5 st5 = some (o, st'), fun σ' H' ⟨H5, as5, en5, st5, a, b, c, d⟩ => ⟨s.ds.length - (i + 1), by omega, H5, as5, en5, st5, a, b, c, d, rfl⟩, fun x H' y => ?_⟩
      obtain ⟨H3, as3, l3, w3, r3⟩ := hy x H' y
      refine ⟨H3, as3, en2, st2, _, en3, e2.mono l3, w3, r3, h3, fun σ5 _ e5 => ?_⟩
      refine ⟨H3, as3, en3, st2, o4, st4, e5, w3, h4, ?_⟩
      cases o4 with
      | nx e' => exact fun σ6 H6 as6 H6' l6 w6 e6 => ⟨H6, as6, e', st4, ((l2.trans l3).trans l6), e6, w6, h2⟩
      | ct e' => exact fun σ6 H6 as6 H6' l6 w6 e6 => ⟨H6, as6, e', st4, ((l2.trans l3).trans l6), e6, w6, h2⟩
      | bk e' =>
        cases h2
        exact fun σ6 H6 as6 H6' l6 w6 e6 => k σ6 H6 as6 H6' (l1.trans ((l2.trans l3).trans l6)) w6 e6
      | rt d =>
        cases h2
        exact fun v H6 as6 H6' l6 w6 r6 => k v H6 as6 H6' (l1.trans ((l2.trans l3).trans l6)) w6 r6
    · cases h2
  · rw [List.drop_eq_nil_of_le (by omega)] at h2
    unfold forL at h2
    split at h2
    · rename_i hk
      cases h2
      exact .inl ⟨(it H2 as2 _ Hx i l2 w2 hk).2 (by omega), k σ1 H2 as2 Hx (l1.trans l2) w2 e2⟩
    · cases h2

/-! ### list comprehensions -/
def wipeE (en : En) : List Nat → En
  | [] => en
  | v :: vs => (wipeE en vs).set v none
theorem EnR.forget {C : Cy} {H0 : Hb} {as : List Addr} {en : En} {σ : L2.St} (e : EnR C H0 as en σ) (v : Nat) : EnR C H0 as (en.set v none) (σ.set v none) := by
  refine ⟨by simp [e.len], fun i d h => ?_⟩
  by_cases hi : i = v
  · subst hi
    by_cases hl : i < en.length
    · rw [List.getElem?_set_self hl] at h
      cases h
    · rw [List.getElem?_eq_none_iff.mpr (by rw [List.length_set]; omega)] at h
      cases h
  · rw [List.getElem?_set_ne (Ne.symm hi)] at h ⊢
    exact e.at_ i d h
theorem EnR.wipe {C : Cy} {H0 : Hb} {as : List Addr} {en : En} {σ : L2.St} (e : EnR C H0 as en σ) : ∀ vs, EnR C H0 as (wipeE en vs) (L2.wipe σ vs)
  | [] => e
  | v :: vs => (EnR.wipe e vs).forget v
theorem wipe_get {σ : L2.St} (i : Nat) : ∀ {vs : List Nat}, i ∉ vs → (L2.wipe σ vs)[i]? = σ[i]?
  | [], _ => rfl
  | v :: vs, h => by
    unfold L2.wipe
    rw [List.getElem?_set_ne (fun z => h (by simp [z])), wipe_get i fun z => h (List.mem_cons_of_mem _ z)]
theorem wipe_in {σ : L2.St} {i : Nat} : ∀ {vs : List Nat}, i ∈ vs → i < σ.length → (L2.wipe σ vs)[i]? = some none
  | v :: vs, h, hl => by
    unfold L2.wipe
    by_cases e : v = i
    · subst e
      exact List.getElem?_set_self (by rw [wipe_length]; exact hl)
    · rw [List.getElem?_set_ne e]
      exact wipe_in ((List.mem_cons.mp h).resolve_left (Ne.symm e)) hl
theorem wipe_eq {σ σ' : L2.St} {vs L : List Nat} (h : SlotEq L (L2.wipe σ vs) σ') (hs : ∀ i ∈ L, i ∈ vs) : L2.wipe σ' vs = L2.wipe σ vs := by
  have hlen : σ'.length = σ.length := h.1.trans (wipe_length σ vs)
  apply List.ext_getElem?
  intro i
  by_cases hi : i ∈ vs
  · by_cases hl : i < σ.length
    · rw [wipe_in hi (by omega), wipe_in hi hl]
    · rw [List.getElem?_eq_none_iff.mpr (by rw [wipe_length]; omega), List.getElem?_eq_none_iff.mpr (by rw [wipe_length]; omega)]
  · rw [wipe_get i hi, h.2 i (fun z => hi (hs i z))]
open Classical in
noncomputable def lcL (s : Src) (T : Tg) (tt : MB) (te : ME) (en : En) : List D → List D → Sto → Option (List D × Sto)
  | [], acc, st => if s.ok st then some (acc, st) else none
  | d :: r, acc, st => if s.ok st then (setTg T d en).bind fun en' => (tt en' st).bind fun p => if p.1 = true then (te en' p.2).bind fun q => if acc.length < sizeLine then lcL s T tt te en r (acc ++ [q.1]) q.2 else none else lcL s T tt te en r acc p.2 else none
noncomputable def mLc (mu : Bool) (mi : MI) (T : Tg) (tt : MB) (te : ME) (vs : List Nat) : ME := fun en st => (mi en st).bind fun p => (lcL p.1 T tt te (wipeE en vs) p.1.ds [] p.2).map fun q => alloc mu q.1 q.2
def mYes : MB := fun _ st => some (true, st)
theorem bm_yes {C : Cy} {σ : L2.St} {H : Hp} {Q : Bool → Hp → Prop} : bM C mYes σ H Q → tYes σ H Q := by
  rintro ⟨H0, as, en, st, b, st', e, w, hm, k⟩
  cases hm
  exact k H0 as H Le.refl w
theorem WR.hold {C : Cy} {H0 : Hb} {H : Hp} {as : List Addr} {st : Sto} (w : WR C H0 as st H) {p : Addr} {o : HO} (hp : H p = none) : WR C ⟨H0.h, (p, o) :: H0.g⟩ as st (upd H p o) := by
  have h0 : H0.h p = none := w.ex.free hp
  have np : p ∉ as := fun z => by
    obtain ⟨u, hu⟩ := w.liv p z
    rw [hp] at hu
    cases hu
  refine ⟨fun b x e => ?_, w.nd, w.len, fun a ha => ?_, fun n a x ha hx => ?_, fun q hq => ?_⟩
  · rw [upd_ne (ne_of_none e h0)]
    exact w.ex b x e
  · obtain ⟨u, hu⟩ := w.liv a ha
    exact ⟨u, by rw [upd_ne (ne_of_none hu hp)]; exact hu⟩
  · rcases w.own n a x ha hx with z | ⟨z, ho, h1, h2⟩
    · exact .inl z
    · exact .inr ⟨z, ho, by rw [upd_ne (ne_of_none h1 hp)]; exact h1, h2.gset _⟩
  · rcases List.mem_cons.mp hq with e | hq
    · subst e
      exact ⟨h0, np, upd_same⟩
    · obtain ⟨h1, h2, h3⟩ := w.gho q hq
      exact ⟨h1, h2, by rw [upd_ne (ne_of_none h3 hp)]; exact h3⟩
/-- what is held aside is changed -/
theorem WR.rehold {C : Cy} {h0 : Hp} {g : List (Addr × HO)} {H : Hp} {as : List Addr} {st : Sto} {p : Addr} {o o' : HO} (w : WR C ⟨h0, (p, o) :: g⟩ as st H) (hg : ∀ q ∈ g, q.1 ≠ p) : WR C ⟨h0, (p, o') :: g⟩ as st (upd H p o') := by
  obtain ⟨n0, np, hp⟩ := w.gho _ (List.mem_cons_self)
  have n0 : h0 p = none := n0
  have np : p ∉ as := np
  refine ⟨fun b x e => ?_, w.nd, w.len, fun a ha => ?_, fun n a x ha hx => ?_, fun q hq => ?_⟩
  · rw [upd_ne (ne_of_none e n0)]
    exact w.ex b x e
  · obtain ⟨u, hu⟩ := w.liv a ha
    exact ⟨u, by rw [upd_ne (fun z => np (by rw [← z]; exact ha))]; exact hu⟩
  · rcases w.own n a x ha hx with z | ⟨z, ho, h1, h2⟩
    · exact .inl z
    · exact .inr ⟨z, ho, by rw [upd_ne (fun e => np (by rw [← e]; exact List.mem_of_getElem? ha))]; exact h1, h2.gset _⟩
  · rcases List.mem_cons.mp hq with e | hq
    · subst e
      exact ⟨n0, np, upd_same⟩
    · obtain ⟨h1, h2, h3⟩ := w.gho q (List.mem_cons_of_mem _ hq)
      exact ⟨h1, h2, by rw [upd_ne (hg q hq)]; exact h3⟩
/-- it is held no more: it stands in the open, with what was held before -/
theorem WR.drop {C : Cy} {h0 : Hp} {g : List (Addr × HO)} {H : Hp} {as : List Addr} {st : Sto} {p : Addr} {o : HO} (w : WR C ⟨h0, (p, o) :: g⟩ as st H) : WR C ⟨h0, g⟩ as st H := by
  refine ⟨w.ex, w.nd, w.len, w.liv, fun n a x ha hx => ?_, fun q hq => w.gho q (List.mem_cons_of_mem _ hq)⟩
  rcases w.own n a x ha hx with z | ⟨z, ho, h1, h2⟩
  · exact .inl z
  · exact .inr ⟨z, ho, h1, h2.gset _⟩
theorem WR.openL {C : Cy} {h0 : Hp} {g : List (Addr × HO)} {H : Hp} {as : List Addr} {st : Sto} {p : Addr} {vs : List V} (w : WR C ⟨h0, (p, .lst vs) :: g⟩ as st H) (hg : ∀ q ∈ g, q.1 ≠ p) : WR C ⟨upd h0 p (.lst vs), g⟩ as st H ∧ Le ⟨h0, g⟩ as ⟨upd h0 p (.lst vs), g⟩ as := by
  obtain ⟨n0, np, hp⟩ := w.gho _ (List.mem_cons_self)
  have n0 : h0 p = none := n0
  have np : p ∉ as := np
  have l : Le ⟨h0, g⟩ as ⟨upd h0 p (.lst vs), g⟩ as := ⟨fun b x e => (show upd h0 p (.lst vs) b = some x by rw [upd_ne (ne_of_none (H := h0) e n0)]; exact e), rfl, List.prefix_rfl⟩
  refine ⟨⟨fun b x e => ?_, w.nd, w.len, w.liv, fun n a x ha hx => ?_, fun q hq => ?_⟩, l⟩
  · have e : upd h0 p (.lst vs) b = some x := e
    by_cases hb : b = p
    · subst hb
      rw [upd_same] at e
      cases e
      exact hp
    · rw [upd_ne hb] at e
      exact w.ex b x e
  · rcases w.drop.own n a x ha hx with z | ⟨z, ho, h1, h2⟩
    · exact .inl z
    · have hap : a ≠ p := fun e => np (by rw [← e]; exact List.mem_of_getElem? ha)
      exact .inr ⟨(show upd h0 p (.lst vs) a = none by rw [upd_ne hap]; exact z), ho, h1, h2.mono l⟩
  · obtain ⟨h1, h2, h3⟩ := w.gho q (List.mem_cons_of_mem _ hq)
    exact ⟨(show upd h0 p (.lst vs) q.1 = none by rw [upd_ne (hg q hq)]; exact h1), h2, h3⟩
theorem WR.openM {C : Cy} {h0 : Hp} {g : List (Addr × HO)} {H : Hp} {as : List Addr} {st : Sto} {p : Addr} {vs : List V} {ds : List D} (w : WR C ⟨h0, (p, .lst vs) :: g⟩ as st H) (hg : ∀ q ∈ g, q.1 ≠ p) (r : Reps C ⟨h0, g⟩ as ds vs) : WR C ⟨h0, g⟩ (as ++ [p]) (st ++ [.lst ds]) H ∧ Le ⟨h0, g⟩ as ⟨h0, g⟩ (as ++ [p]) := by
  obtain ⟨n0, np, hp⟩ := w.gho _ (List.mem_cons_self)
  have n0 : h0 p = none := n0
  have np : p ∉ as := np
  have l : Le ⟨h0, g⟩ as ⟨h0, g⟩ (as ++ [p]) := ⟨Same.refl _, rfl, List.prefix_append _ _⟩
  refine ⟨⟨w.ex, ?_, ?_, fun a ha => ?_, fun n a x ha hx => ?_, fun q hq => ?_⟩, l⟩
  · refine List.nodup_append.mpr ⟨w.nd, by simp, fun a ha b hb => ?_⟩
    have e : b = p := by simpa using hb
    subst e
    exact fun z => np (z ▸ ha)
  · simp [w.len]
  · rcases List.mem_append.mp ha with ha | ha
    · exact w.liv a ha
    · have e : a = p := by simpa using ha
      subst e
      exact ⟨_, hp⟩
  · by_cases hn : n < as.length
    · rw [List.getElem?_append_left hn] at ha
      rw [List.getElem?_append_left (by rw [← w.len]; exact hn)] at hx
      rcases w.drop.own n a x ha hx with z | ⟨z, u, h1, h2⟩
      · exact .inl z
      · exact .inr ⟨z, u, h1, h2.mono l⟩
    · have hn' : n = as.length := by
        have := (List.getElem?_eq_some_iff.mp ha).1
        rw [List.length_append] at this
        simp at this
        omega
      subst hn'
      rw [List.getElem?_append_right (Nat.le_refl _)] at ha
      rw [w.len, List.getElem?_append_right (Nat.le_refl _)] at hx
      simp at ha hx
      subst ha hx
      exact .inr ⟨n0, _, hp, vs, rfl, r.mono l⟩
  · obtain ⟨h1, h2, h3⟩ := w.gho q (List.mem_cons_of_mem _ hq)
    exact ⟨h1, fun z => (List.mem_append.mp z).elim h2 fun z => hg q hq (by simpa using z), h3⟩
theorem em_lc {C : Cy} {mu : Bool} {mi : MI} {T : Tg} {tt : MB} {te : ME} {vs : List Nat} {σ : L2.St} {H : Hp} {Q : VK} (hs : ∀ i ∈ T.slots, i ∈ vs) : eM C (mLc mu mi T tt te vs) σ H Q → tLc (iM C mi) (tgM C T) (bM C tt) (eM C te) vs σ H Q := by
  rintro ⟨H0, as, en, st, d, st', e, w, hm, k⟩
  unfold mLc at hm
  obtain ⟨⟨s, s1⟩, h1, hm⟩ := Option.bind_eq_some_iff.mp hm
  obtain ⟨⟨ys, s2⟩, h2, ea⟩ := Option.map_eq_some_iff.mp hm
  refine ⟨H0, as, en, st, s, s1, e, w, h1, fun J H1 as1 H1' l1 w1 it => fun Dl hD => ?_⟩
  have w2 := w1.hold (o := .lst []) hD
  have hgd : ∀ q ∈ H1.g, q.1 ≠ Dl := fun q hq => ne_of_none (w1.gho q hq).2.2 hD
  refine ⟨fun i m Hx => ∃ H2 as2 st2 acc vacc, Le ⟨H1.h, H1.g⟩ as1 ⟨H2, H1.g⟩ as2 ∧ WR C ⟨H2, (Dl, .lst vacc) :: H1.g⟩ as2 st2 Hx ∧ Reps C ⟨H2, H1.g⟩ as2 acc vacc ∧ lcL s T tt te (wipeE en vs) (s.ds.drop i) acc st2 = some (ys, s2) ∧ m = s.ds.length - i,
    ⟨s.ds.length, H1.h, as1, s1, [], [], Le.refl, w2, rfl, h2, rfl⟩, ?_⟩
  rintro i m Hx ⟨H2, as2, st2, acc, vacc, l2, w2, ra, h2, rfl⟩
  have lg : Le ⟨H1.h, (Dl, .lst vacc) :: H1.g⟩ as1 ⟨H2, (Dl, .lst vacc) :: H1.g⟩ as2 := l2.gset _
  have e2 : EnR C ⟨H2, (Dl, .lst vacc) :: H1.g⟩ as2 (wipeE en vs) (L2.wipe σ vs) := (((e.mono l1).mono l2).gset _).wipe vs
  have itg := it ((Dl, .lst vacc) :: H1.g)
  by_cases hi : i < s.ds.length
  · rw [List.drop_eq_getElem_cons hi] at h2
    unfold lcL at h2
    split at h2
    · rename_i hk
      obtain ⟨en3, h3, h2⟩ := Option.bind_eq_some_iff.mp h2
      obtain ⟨⟨b4, st4⟩, h4, h2⟩ := Option.bind_eq_some_iff.mp h2
      obtain ⟨hgo, hy⟩ := (itg _ as2 st2 Hx i lg w2 hk).1 _ (List.getElem?_eq_getElem hi)
      refine .inr ⟨hgo, fun H' => ∃ H5 as5 st5 acc5 vacc5, Le ⟨H1.h, H1.g⟩ as1 ⟨H5, H1.g⟩ as5 ∧ WR C ⟨H5, (Dl, .lst vacc5) :: H1.g⟩ as5 st5 H' ∧ Reps C ⟨H5, H1.g⟩ as5 acc5 vacc5 ∧ lcL s T tt te (wipeE en vs) (s.ds.drop (i + 1)) acc5 st5 = some (ys, s2),
        fun H' ⟨H5, as5, st5, acc5, vacc5, a, b, c, d⟩ => ⟨s.ds.length - (i + 1), by omega, H5, as5, st5, acc5, vacc5, a, b, c, d, rfl⟩, fun x H' y => ?_⟩
      obtain ⟨⟨H3, g3⟩, as3, l3, w3, r3⟩ := hy x H' y
      cases (show g3 = _ from l3.gh)
      refine ⟨⟨H3, _⟩, as3, wipeE en vs, st2, _, en3, e2.mono l3, w3, r3, h3, fun σ5 se e5 => ⟨wipe_eq se hs, ?_⟩⟩
      refine ⟨⟨H3, _⟩, as3, en3, st2, b4, st4, e5, w3, h4, ?_⟩
      rintro ⟨H4, g4⟩ as4 H4' l4 w4
      cases (show g4 = _ from l4.gh)
      dsimp only at h2 ⊢
      have l24 : Le ⟨H2, (Dl, .lst vacc) :: H1.g⟩ as2 ⟨H4, (Dl, .lst vacc) :: H1.g⟩ as4 := l3.trans l4
      split
      · rename_i hb
        rw [if_pos hb] at h2
        obtain ⟨⟨y5, st5⟩, h5, h2⟩ := Option.bind_eq_some_iff.mp h2
        refine ⟨⟨H4, _⟩, as4, en3, st4, y5, st5, e5.mono l4, w4, h5, ?_⟩
        rintro yv ⟨H5, g5⟩ as5 H5' l5 w5 r5
        cases (show g5 = _ from l5.gh)
        dsimp only at h2
        split at h2
        · rename_i hz
          have l25 := l24.trans l5
          have ra5 : Reps C ⟨H5, H1.g⟩ as5 acc vacc := ra.mono (l25.gset H1.g)
          refine ⟨vacc, (w5.gho _ (List.mem_cons_self)).2.2, by rw [← ra.length]; exact hz, H5, as5, st5, acc ++ [y5], vacc ++ [yv], l2.trans (l25.gset H1.g), w5.rehold hgd, ra5.append (Reps.one (r5.gset _)), h2⟩
        · cases h2
      · rename_i hb
        rw [if_neg hb] at h2
        exact ⟨H4, as4, st4, acc, vacc, l2.trans (l24.gset H1.g), w4, ra.mono (l24.gset H1.g), h2⟩
    · cases h2
  · rw [List.drop_eq_nil_of_le (by omega)] at h2
    unfold lcL at h2
    split at h2
    · rename_i hk
      cases h2
      refine .inl ⟨(itg _ as2 _ Hx i lg w2 hk).2 (by omega), ?_⟩
      have k2 := k.mono (l1.trans l2)
      cases mu with
      | true =>
        cases ea
        obtain ⟨w6, l6⟩ := w2.openM hgd ra
        exact k2 (.ref Dl) _ _ _ l6 w6 ⟨Dl, by rw [← w2.len]; simp, rfl⟩
      | false =>
        cases ea
        obtain ⟨w6, l6⟩ := w2.openL hgd
        exact k2 (.ref Dl) _ _ _ l6 w6 ⟨Dl, vacc, rfl, upd_same, ra.mono l6⟩
    · cases h2
end My


namespace My
open PySem PySem.Spec PyProof.Rows L2

/-! ### what of the store is left behind a call -/
mutual
def clo (n : Nat) : D → Bool
  | .loc m => decide (m < n)
  | .tup ds => clos n ds
  | .lst ds => clos n ds
  | .fro ds => clos n ds
  | .fdk m _ ds => decide (m < n) && clos n ds
  | _ => true
def clos (n : Nat) : List D → Bool
  | [] => true
  | d :: ds => clo n d && clos n ds
end
def cloO (n : Nat) : SO → Bool
  | .dead => true
  | .lst ds => clos n ds
  | .dK kvs => clos n (kvs.map (·.2))
  | .dT kvs => clos n (kvs.map (·.2))
open Classical in
noncomputable def settle (st0 : Sto) (d : D) (st : Sto) : D × Sto :=
  if st.length ≤ st0.length then (d, st)
  else if clo st0.length d = true ∧ ∀ i, i < st0.length → st[i]? = st0[i]? ∨ ∃ o, st[i]? = some o ∧ cloO st0.length o = true then (d, st.take st0.length) else (d, st)
noncomputable def mDef (N n : Nat) (b : MS) : List D → Sto → Option (D × Sto) := fun ds st => if ds.length = n then (b (ds.map some ++ List.replicate (N - ds.length) none) st).bind fun p => match p.1 with
  | .rt d => some (settle st d p.2)
  | .nx _ => some (settle st .non p.2)
  | _ => none
else none
section
variable {C : Cy} {H : Hb} {as : List Addr} {n : Nat}
mutual
theorem Rep.cut : ∀ {d : D} {v : V}, Rep C H as d v → clo n d = true → Rep C H (as.take n) d v
  | .non, _, h, _ => h
  | .bl _, _, h, _ => h
  | .int _, _, h, _ => h
  | .str _, _, h, _ => h
  | .ty _, _, h, _ => h
  | .adr _, _, h, _ => h
  | .tup ds, _, ⟨a, vs, e, hs, hr⟩, c => ⟨a, vs, e, hs, Reps.cutr hr (by unfold clo at c; exact c)⟩
  | .lst ds, _, ⟨a, vs, e, hs, hr⟩, c => ⟨a, vs, e, hs, Reps.cutr hr (by unfold clo at c; exact c)⟩
  | .fro ds, _, ⟨a, vs, e, hs, hr⟩, c => ⟨a, vs, e, hs, Reps.cutr hr (by unfold clo at c; exact c)⟩
  | .loc m, _, ⟨a, ha, e⟩, c => ⟨a, by
      unfold clo at c
      rw [List.getElem?_take_of_lt (of_decide_eq_true c)]
      exact ha, e⟩
  | .fdk m ks ds, _, ⟨a, ob, vs, ha, e, hs, hl, hr⟩, c => by
      unfold clo at c
      rw [Bool.and_eq_true] at c
      exact ⟨a, ob, vs, by rw [List.getElem?_take_of_lt (of_decide_eq_true c.1)]; exact ha, e, hs, hl, Reps.cutr hr c.2⟩
  | .set _, _, h, _ => h
  | .fn _, _, h, _ => h
theorem Reps.cutr : ∀ {ds : List D} {vs : List V}, Reps C H as ds vs → clos n ds = true → Reps C H (as.take n) ds vs
  | [], _, h, _ => h
  | d :: ds, _, ⟨v, r, e, h1, h2⟩, c => by
    unfold clos at c
    rw [Bool.and_eq_true] at c
    exact ⟨v, r, e, Rep.cut h1 c.1, Reps.cutr h2 c.2⟩
end
theorem RepKV.cut {κ : Type} : ∀ {ds : List (κ × D)} {vs : List (κ × V)}, RepKV C H as ds vs → clos n (ds.map (·.2)) = true → RepKV C H (as.take n) ds vs
  | [], _, h, _ => h
  | (k, d) :: ds, _, ⟨v, r, e, h1, h2⟩, c => by
    rw [List.map_cons] at c
    unfold clos at c
    rw [Bool.and_eq_true] at c
    exact ⟨v, r, e, h1.cut c.1, RepKV.cut h2 c.2⟩
theorem RepO.cut : ∀ {o : SO} {u : HO}, RepO C H as o u → cloO n o = true → RepO C H (as.take n) o u
  | .dead, _, h, _ => h
  | .lst _, _, ⟨vs, e, h⟩, c => ⟨vs, e, h.cutr c⟩
  | .dK _, _, ⟨vs, e, h⟩, c => ⟨vs, e, h.cut c⟩
  | .dT _, _, ⟨vs, e, h⟩, c => ⟨vs, e, h.cut c⟩
mutual
theorem Rep.clo : ∀ {d : D} {v : V}, Rep C H as d v → My.clo as.length d = true
  | .non, _, _ => rfl
  | .bl _, _, _ => rfl
  | .int _, _, _ => rfl
  | .str _, _, _ => rfl
  | .ty _, _, _ => rfl
  | .adr _, _, _ => rfl
  | .tup ds, _, ⟨a, vs, e, hs, hr⟩ => by unfold My.clo; exact Reps.clo hr
  | .lst ds, _, ⟨a, vs, e, hs, hr⟩ => by unfold My.clo; exact Reps.clo hr
  | .fro ds, _, ⟨a, vs, e, hs, hr⟩ => by unfold My.clo; exact Reps.clo hr
  | .loc m, _, ⟨a, ha, e⟩ => decide_eq_true (List.getElem?_eq_some_iff.mp ha).1
  | .fdk m _ ds, _, ⟨a, ob, vs, ha, e, hs, hl, hr⟩ => by
    unfold My.clo
    rw [decide_eq_true (List.getElem?_eq_some_iff.mp ha).1, Reps.clo hr]
    rfl
  | .set _, _, _ => rfl
  | .fn _, _, _ => rfl
theorem Reps.clo : ∀ {ds : List D} {vs : List V}, Reps C H as ds vs → My.clos as.length ds = true
  | [], _, _ => rfl
  | d :: ds, _, ⟨v, r, e, h1, h2⟩ => by
    unfold clos
    rw [Rep.clo h1, Reps.clo h2]
    rfl
end
theorem RepKV.clo {κ : Type} : ∀ {ds : List (κ × D)} {vs : List (κ × V)}, RepKV C H as ds vs → My.clos as.length (ds.map (·.2)) = true
  | [], _, _ => rfl
  | (k, d) :: ds, _, ⟨v, r, e, h1, h2⟩ => by
    rw [List.map_cons]
    unfold clos
    rw [Rep.clo h1, RepKV.clo h2]
    rfl
theorem RepO.clo : ∀ {o : SO} {u : HO}, RepO C H as o u → cloO as.length o = true
  | .dead, _, _ => rfl
  | .lst _, _, ⟨vs, e, h⟩ => h.clo
  | .dK _, _, ⟨vs, e, h⟩ => h.clo
  | .dT _, _, ⟨vs, e, h⟩ => h.clo
theorem settle_ok {H0 H1 : Hb} {as0 as1 : List Addr} {st0 st1 st2 : Sto} {d d2 : D} {v : V} {Hx Hy : Hp} {Q : VK} (w0 : WR C H0 as0 st0 Hx) (l : Le H0 as0 H1 as1) (w1 : WR C H1 as1 st1 Hy) (r : Rep C H1 as1 d v) (e : settle st0 d st1 = (d2, st2)) (k : KE C H0 as0 st2 d2 Q) : Q v Hy := by
  unfold settle at e
  split at e
  · cases e
    exact k v H1 as1 Hy l w1 r
  · rename_i hl
    split at e
    · rename_i hc
      cases e
      have e0 : as1.take st0.length = as0 := by
        obtain ⟨t, rfl⟩ := l.pre
        rw [← w0.len]
        exact List.take_left' rfl
      have rc : Rep C H1 (as1.take st0.length) d v := r.cut hc.1
      rw [e0] at rc
      refine k v H1 as0 Hy ⟨l.same, l.gh, List.prefix_rfl⟩ ⟨w1.ex, w0.nd, ?_, fun a ha => ?_, fun m a o ha ho => ?_, fun q hq => ?_⟩ rc
      · rw [List.length_take, w0.len]
        omega
      · exact w1.liv a (l.pre.subset ha)
      · have hm : m < st0.length := by
          have := (List.getElem?_eq_some_iff.mp ha).1
          rw [w0.len] at this
          exact this
        rw [List.getElem?_take_of_lt hm] at ho
        rcases w1.own m a o (pre_get l.pre ha) ho with z | ⟨z, u, h1, h2⟩
        · exact .inl z
        · rcases hc.2 m hm with q | ⟨o', q1, q2⟩
          · rw [ho] at q
            rcases w0.own m a o ha q.symm with z' | ⟨z', u', h1', h2'⟩
            · exact .inl z'
            · have h3 := h2.cut (w0.len ▸ h2'.clo)
              rw [e0] at h3
              exact .inr ⟨z, u, h1, h3⟩
          · rw [ho] at q1
            cases q1
            have h3 := h2.cut q2
            rw [e0] at h3
            exact .inr ⟨z, u, h1, h3⟩
      · obtain ⟨h1, h2, h3⟩ := w1.gho q hq
        exact ⟨h1, fun z => h2 (l.pre.subset z), h3⟩
    · cases e
      exact k v H1 as1 Hy l w1 r
end

/-! ### frozen: a mutable list that is not changed any more -/
def mFrz (m : ME) : ME := fun en st => (m en st).bind fun p => match p.1 with
  | .loc n => match p.2[n]? with
    | some (.lst ds) => some (.lst ds, p.2.set n .dead)
    | _ => none
  | d => some (d, p.2)
theorem WR.frz {C : Cy} {H0 : Hb} {H : Hp} {as : List Addr} {st : Sto} (w : WR C H0 as st H) {n : Nat} {a : Addr} {vs : List V} (ha : as[n]? = some a) (hn : H0.h a = none) (h1 : H a = some (.lst vs)) : WR C ⟨upd H0.h a (.lst vs), H0.g⟩ as (st.set n .dead) H ∧ Le H0 as ⟨upd H0.h a (.lst vs), H0.g⟩ as := by
  have l : Le H0 as ⟨upd H0.h a (.lst vs), H0.g⟩ as := ⟨fun b x e => (show upd H0.h a (.lst vs) b = some x by rw [upd_ne (ne_of_none e hn)]; exact e), rfl, List.prefix_rfl⟩
  refine ⟨⟨fun b x e => ?_, w.nd, by rw [List.length_set, w.len], w.liv, fun m b x hb hx => ?_, fun q hq => ?_⟩, l⟩
  · have e : upd H0.h a (.lst vs) b = some x := e
    by_cases hb : b = a
    · subst hb
      rw [upd_same] at e
      rw [← e]
      exact h1
    · rw [upd_ne hb] at e
      exact w.ex b x e
  · by_cases e : m = n
    · subst e
      have hl : m < st.length := by
        have := (List.getElem?_eq_some_iff.mp ha).1
        rw [w.len] at this
        exact this
      rw [List.getElem?_set_self hl] at hx
      cases hx
      exact .inl rfl
    · rw [List.getElem?_set_ne (Ne.symm e)] at hx
      have hba : b ≠ a := fun z => by
        subst z
        obtain ⟨h1, e1⟩ := List.getElem?_eq_some_iff.mp ha
        obtain ⟨h2, e2⟩ := List.getElem?_eq_some_iff.mp hb
        exact e ((List.getElem_inj w.nd).mp (e2.trans e1.symm))
      rcases w.own m b x hb hx with z | ⟨z, u, h1, h2⟩
      · exact .inl z
      · exact .inr ⟨(show upd H0.h a (.lst vs) b = none by rw [upd_ne hba]; exact z), u, h1, h2.mono l⟩
  · obtain ⟨g1, g2, g3⟩ := w.gho q hq
    have hqa : q.1 ≠ a := fun z => g2 (by rw [z]; exact List.mem_of_getElem? ha)
    exact ⟨(show upd H0.h a (.lst vs) q.1 = none by rw [upd_ne hqa]; exact g1), g2, g3⟩
theorem em_frz {C : Cy} {m : ME} {σ : L2.St} {H : Hp} {Q : VK} : eM C (mFrz m) σ H Q → eM C m σ H Q := by
  rintro ⟨H0, as, en, st, d, st', e, w, hm, k⟩
  unfold mFrz at hm
  obtain ⟨⟨d1, s1⟩, ha, hm⟩ := Option.bind_eq_some_iff.mp hm
  refine ⟨H0, as, en, st, d1, s1, e, w, ha, fun v H1 as1 H1' l1 w1 r1 => ?_⟩
  cases d1 with
  | loc n =>
    dsimp only at hm
    split at hm
    · rename_i he
      cases hm
      obtain ⟨a, vs, ha', hn, h1, hr⟩ := w1.loc he
      obtain ⟨a', hb, rfl⟩ := r1
      rw [ha'] at hb
      cases hb
      obtain ⟨w2, l2⟩ := w1.frz ha' hn h1
      exact k _ _ _ _ (l1.trans l2) w2 ⟨a, vs, rfl, upd_same, hr.mono l2⟩
    · cases hm
  | _ =>
    cases hm
    exact k v H1 as1 H1' l1 w1 r1

/-! ### defs -/
def spM (C : Cy) (f : List D → Sto → Option (D × Sto)) : Sp := fun vs H Q _ => ∃ H0 as ds st d st', Reps C H0 as ds vs ∧ WR C H0 as st H ∧ f ds st = some (d, st') ∧ KE C H0 as st' d Q
theorem start_env {C : Cy} {H0 : Hb} {as : List Addr} {ds : List D} {vs : List V} {N : List Str} (r : Reps C H0 as ds vs) : EnR C H0 as (ds.map some ++ List.replicate (N.length - ds.length) none) (L2.start N vs) := by
  unfold L2.start
  refine ⟨by simp [r.length], fun i d h => ?_⟩
  by_cases hi : i < ds.length
  · rw [List.getElem?_append_left (by simpa using hi), List.getElem?_map] at h
    obtain ⟨d', hd, e⟩ := Option.map_eq_some_iff.mp h
    cases e
    obtain ⟨v, hv, rv⟩ := r.get hd
    exact ⟨v, by rw [List.getElem?_append_left (by rw [List.length_map, ← r.length]; exact hi), List.getElem?_map, hv]; rfl, rv⟩
  · rw [List.getElem?_append_right (by simpa using hi)] at h
    obtain ⟨_, e⟩ := List.getElem?_eq_some_iff.mp h
    rw [List.getElem_replicate] at e
    cases e
section
variable {P : Program} {w : World} {K : PySem.W.Frag} {mg : Str → Option Value} {base : Heap}
theorem x_def {x qual : Str} {st : Stmt} {f : Addr} {fd : FuncData} {N ps : List Str} {k nN nP : Nat} {mb : MS} (F : Fun K x qual st f fd) (S : FnScope N ps (defScope st)) (eN : N.length = nN) (eP : ps.length = nP)
    (body : ∀ (cdv : Value) (A : Around) (outer : List Env) (s : Shared) (H : Hp) (E : XK), Room k (A.deeper (envOfC qual (defScope st) s.heap.objs.size f cdv)) →
      PSs (cxOf CX0 P w K mg base N qual (defScope st) f cdv A outer s H E).nox (defBody st) (sM ⟨K, P, w⟩ mb)) : FnOk P w K mg base CX0 (k + 1) f fd ps (spM ⟨K, P, w⟩ (mDef nN nP mb)) := by
  subst eN eP
  have len : ∀ {ds : List D} {st : Sto} {d : D} {st' : Sto}, mDef N.length ps.length mb ds st = some (d, st') → ds.length = ps.length := by
    intro ds st d st' h
    unfold mDef at h
    split at h
    · assumption
    · cases h
  refine F.ok S (fun vs H Q E ⟨H0, as, ds, st, d, st', r, _, h, _⟩ => by rw [← r.length]; exact len h) fun cdv A outer s H vs Q E hr h => ⟨_, body cdv A outer s H E hr, ?_⟩
  obtain ⟨H0, as, ds, st, d, st', r, w0, hm, kq⟩ := h
  have hl := len hm
  unfold mDef at hm
  rw [if_pos hl] at hm
  obtain ⟨⟨o, s1⟩, h1, hm⟩ := Option.bind_eq_some_iff.mp hm
  refine ⟨H0, as, _, st, o, s1, start_env r, w0, h1, ?_⟩
  cases o with
  | nx en =>
    intro σ1 H1 as1 H1' l1 w1 e1
    exact settle_ok w0 l1 w1 (d := .non) (v := .non) rfl (Option.some.inj hm) kq
  | rt d1 =>
    intro v H1 as1 H1' l1 w1 r1
    exact settle_ok w0 l1 w1 r1 (Option.some.inj hm) kq
  | bk en => cases hm
  | ct en => cases hm
/-- a def of which nothing is asked -/
theorem x_def0 {f : Addr} {fd : FuncData} {ps : List Str} {C : Cy} {k : Nat} : FnOk P w K mg base CX0 k f fd ps (spM C fun _ _ => none) :=
  ⟨fun _ _ _ _ h => (by obtain ⟨H0, as, ds, st, d, st', r, _, h, _⟩ := h; cases h), fun _ _ _ _ _ _ _ _ _ _ _ _ _ h => (by obtain ⟨H0, as, ds, st, d, st', r, _, h, _⟩ := h; cases h)⟩
end
/-- keywords: the arguments as they are written, taken to the parameters' places -/
def pick {α : Type} (p : List Nat) (l : List α) : List α := p.filterMap fun i => l[i]?
structure KwB (fd : FuncData) (ps : List Str) (n : Nat) (ks : List Str) (p : List Nat) : Prop where
  to : ∀ us ws : List Value, us.length = n → ws.length = ks.length → bindArgs fd ⟨us, ks.zip ws⟩ = pure (ps.zip (pick p (us ++ ws)))
theorem pick_vals {xs : List V} {us : List Value} (r : Vals xs us) : ∀ p : List Nat, Vals (pick p xs) (pick p us)
  | [] => .nil
  | i :: p => by
    have ih := pick_vals r p
    unfold pick at ih ⊢
    rw [List.filterMap_cons, List.filterMap_cons]
    cases h : xs[i]? with
    | none => rw [r.none_of h]; exact ih
    | some x =>
      obtain ⟨u, hu, ru⟩ := r.get h
      rw [hu]
      exact .cons ru ih
theorem pick_reps {C : Cy} {H : Hb} {as : List Addr} {ds : List D} {vs : List V} (r : Reps C H as ds vs) : ∀ p : List Nat, Reps C H as (pick p ds) (pick p vs)
  | [] => rfl
  | i :: p => by
    have ih := pick_reps r p
    unfold pick at ih ⊢
    rw [List.filterMap_cons, List.filterMap_cons]
    cases h : ds[i]? with
    | none =>
      have h2 : vs[i]? = none := List.getElem?_eq_none_iff.mpr (by rw [← r.length]; exact List.getElem?_eq_none_iff.mp h)
      rw [h2]
      exact ih
    | some d =>
      obtain ⟨v, hv, rv⟩ := r.get h
      rw [hv]
      exact ⟨v, _, rfl, rv, ih⟩
theorem Fun.kw {K : PySem.W.Frag} {x qual : Str} {st : Stmt} {f : Addr} {fd : FuncData} {ps ks : List Str} {n : Nat} {p : List Nat} (F : Fun K x qual st f fd)
    (h : ∀ (kV doc pm : Value) (an : Option Addr) (cdv ct : Value) (us ws : List Value), us.length = n → ws.length = ks.length → bindArgs (PySem.W.fnOf x qual (defArgs st) (defBody st) (defScope st) .none kV doc pm an cdv ct) ⟨us, ks.zip ws⟩ = pure (ps.zip (pick p (us ++ ws)))) : KwB fd ps n ks p := by
  obtain ⟨oc, od, kV, doc, pm, an, cdv, ct, osl, rfl, lk, hcd⟩ := F.ex
  exact ⟨h kV doc pm an cdv ct⟩
/-- keyword arguments -/
def mCbK (g : List D → Sto → Option (D × Sto)) (n m : Nat) (pm : List Nat) (a b : MA) : ME := fun en st => (a en st).bind fun p => (b en p.2).bind fun q => if p.1.length = n ∧ q.1.length = m then g (pick pm (p.1 ++ q.1)) q.2 else none
section
variable {X : Cx} {k : Nat} {f : Addr} {fd : FuncData} {ps ks : List Str} {x : Str} {p pos : Pos} {e : Expr} {es : List Expr} {kws : List Keyword} {ma mk : MA} {g : List D → Sto → Option (D × Sto)} {n : Nat} {pm : List Nat}
theorem PK.imp {t t' : TA} (h : PK X kws t) (i : ∀ σ H Q, t' σ H Q → t σ H Q) : PK X kws t' := ⟨fun pos pins s σ H Q I w => h.run pos pins s σ H Q I (i σ H Q w)⟩
theorem x_call (G : FnOk X.prog X.w X.K X.mg X.base CX0 k f fd ps (spM (cyOf X) g)) (hr : Room k X.A) (hg : Gl X x) (hm : X.mg x = some (.ref f)) (hk : PySem.W.keepIn X.K (.ref f) = true) (hb : Binds X.K fd ps [])
    (ha : PA X (e :: es) (aM (cyOf X) ma)) (hdb : (x == ("__debug__" : Str)) = false := by decide) (he : starEach (e :: es) X.env = (false, eval e X.env) :: starEach es X.env := by rfl) (hpl : (backTo pos (starEach es X.env)).any (·.1) = false := by rfl) :
    PE X (.Call (.Name x p) (e :: es) [] pos) (eM (cyOf X) (mCb g ma)) := by
  refine PE.imp (pe_call G hr hg hm hk hb .nil pass0 ha hdb he hpl) fun σ H Q => ?_
  rintro ⟨H0, as, en, st, d, st', e, w, hm, k⟩
  unfold mCb at hm
  obtain ⟨⟨da, s1⟩, ha, hm⟩ := Option.bind_eq_some_iff.mp hm
  refine ⟨H0, as, en, st, da, s1, e, w, ha, fun vs H1 as1 H1' l1 w1 r1 => ?_⟩
  exact ⟨H1, as1, da, s1, d, st', by rw [List.append_nil]; exact r1, w1, hm, k.mono l1⟩
theorem x_call0 (G : FnOk X.prog X.w X.K X.mg X.base CX0 k f fd ps (spM (cyOf X) g)) (hr : Room k X.A) (hg : Gl X x) (hm : X.mg x = some (.ref f)) (hk : PySem.W.keepIn X.K (.ref f) = true) (hb : Binds X.K fd ps [])
    (hdb : (x == ("__debug__" : Str)) = false := by decide) : PE X (.Call (.Name x p) [] [] pos) (eM (cyOf X) (mCb g mNil)) := by
  refine PE.imp (pe_call0 G hr hg hm hk hb .nil pass0 hdb) fun σ H Q => ?_
  rintro ⟨H0, as, en, st, d, st', e, w, hm, k⟩
  exact ⟨H0, as, [], st, d, st', rfl, w, hm, k⟩
theorem run_kw {pins : List (Addr × Obj)} {σ : L2.St} {H : Hp} {s : Shared} {Q : VK} {us ws : List Value} {vs zs : List V} (G : FnOk X.prog X.w X.K X.mg X.base CX0 k f fd ps (spM (cyOf X) g)) (hr : Room k X.A) (hb : KwB fd ps n ks pm)
    (I : Inv X pins σ H s) (r : Vals vs us) (rz : Vals zs ws) (l1 : vs.length = n) (l2 : zs.length = ks.length) (h : spM (cyOf X) g (pick pm (vs ++ zs)) H Q E0) : wpAny (model X.prog X.w) X.A (call (.ref f) us (ks.zip ws)) (EP X pins σ Q) X.xe s := by
  refine wpAny_call (codeAny_mono (G.run X.A X.stack s H ⟨us, ks.zip ws⟩ (pick pm (us ++ ws)) (pick pm (vs ++ zs)) Q E0 hr I.env0 (.of_eq (hb.to us ws (by rw [← r.length]; exact l1) (by rw [← rz.length]; exact l2))) (pick_vals (r.append rz) pm) h) fun r s' hq => ?_)
  cases r with
  | error e => exact False.elim hq
  | ok fl =>
    cases fl with
    | ret u => exact I.after hq
    | next => exact False.elim hq
    | brk => exact False.elim hq
    | cont => exact False.elim hq
theorem x_callK0 (G : FnOk X.prog X.w X.K X.mg X.base CX0 k f fd ps (spM (cyOf X) g)) (hr : Room k X.A) (hg : Gl X x) (hm : X.mg x = some (.ref f)) (hk : PySem.W.keepIn X.K (.ref f) = true) (hb : KwB fd ps 0 ks pm) (hkw : PK X kws (aM (cyOf X) mk))
    (hall : (backToKw pos (keywordEach kws X.env)).all (·.1.isSome) = true := by rfl) (hks : (backToKw pos (keywordEach kws X.env)).filterMap (·.1) = ks := by rfl) (hdb : (x == ("__debug__" : Str)) = false := by decide)
    (hpl : ((backTo pos (starEach [] X.env)).any (·.1) || (backToKw pos (keywordEach kws X.env)).any (·.1.isNone)) = false := by rfl) :
    PE X (.Call (.Name x p) [] kws pos) (eM (cyOf X) (mCbK g 0 ks.length pm mNil mk)) := by
  refine ⟨fun pins s σ H Q I h => ?_⟩
  refine wpAny_Call_Name_kw (ld_glob I hg hm ?_ hdb)
  refine PySem.W.callWith_KW0 (h₀ := X.base) I.ok.mod.kin hk hall ?_ hpl
  obtain ⟨H0, as, en, st, d, st', e, w, hm, k⟩ := h
  unfold mCbK at hm
  obtain ⟨⟨da, s1⟩, ha, hm⟩ := Option.bind_eq_some_iff.mp hm
  cases ha
  obtain ⟨⟨db, s2⟩, hb', hm⟩ := Option.bind_eq_some_iff.mp hm
  dsimp only at hm
  split at hm
  · rename_i hl
    refine thn (hkw.run pos pins s σ H (fun zs H2 => zs.length = ks.length ∧ spM (cyOf X) g (pick pm zs) H2 Q E0) I ⟨H0, as, en, st, db, s2, e, w, hb', fun vs H1 as1 H1' l1 w1 r1 => ⟨by rw [← r1.length]; exact hl.2, H1, as1, pick pm db, s2, d, st', pick_reps r1 pm, w1, hm, k.mono l1⟩⟩) fun ws s2 ⟨zs, H2, I2, rz, q1, q2⟩ => ⟨I2.kIn, ?_⟩
    rw [hks]
    exact run_kw (us := []) (vs := []) G hr hb I2 .nil rz rfl q1 q2
  · cases hm
theorem x_callK (G : FnOk X.prog X.w X.K X.mg X.base CX0 k f fd ps (spM (cyOf X) g)) (hr : Room k X.A) (hg : Gl X x) (hm : X.mg x = some (.ref f)) (hk : PySem.W.keepIn X.K (.ref f) = true) (hb : KwB fd ps n ks pm) (ha : PA X (e :: es) (aM (cyOf X) ma)) (hkw : PK X kws (aM (cyOf X) mk))
    (hall : (backToKw pos (keywordEach kws X.env)).all (·.1.isSome) = true := by rfl) (hks : (backToKw pos (keywordEach kws X.env)).filterMap (·.1) = ks := by rfl) (hdb : (x == ("__debug__" : Str)) = false := by decide)
    (he : starEach (e :: es) X.env = (false, eval e X.env) :: starEach es X.env := by rfl)
    (hpl : ((backTo pos (starEach (e :: es) X.env)).any (·.1) || (backToKw pos (keywordEach kws X.env)).any (·.1.isNone)) = false := by rfl) :
    PE X (.Call (.Name x p) (e :: es) kws pos) (eM (cyOf X) (mCbK g n ks.length pm ma mk)) := by
  refine ⟨fun pins s σ H Q I h => ?_⟩
  refine wpAny_Call_Name_kw (ld_glob I hg hm ?_ hdb)
  obtain ⟨H0, as, en, st, d, st', e', w, hm, k⟩ := h
  unfold mCbK at hm
  obtain ⟨⟨da, s1⟩, ha', hm⟩ := Option.bind_eq_some_iff.mp hm
  obtain ⟨⟨db, s2⟩, hb', hm⟩ := Option.bind_eq_some_iff.mp hm
  dsimp only at hm
  split at hm
  · rename_i hl
    refine PySem.W.callWith_KW (h₀ := X.base) I.ok.mod.kin hk hall (thn (ha.run pos pins s σ H (fun vs H1 => vs.length = n ∧ aM (cyOf X) mk σ H1 fun zs H2 => zs.length = ks.length ∧ spM (cyOf X) g (pick pm (vs ++ zs)) H2 Q E0) I
      ⟨H0, as, en, st, da, s1, e', w, ha', fun vs H1 as1 H1' l1 w1 r1 => ⟨by rw [← r1.length]; exact hl.1, H1, as1, en, s1, db, s2, e'.mono l1, w1, hb', fun zs H2 as2 H2' l2 w2 r2 => ⟨by rw [← r2.length]; exact hl.2, H2, as2, pick pm (da ++ db), s2, d, st', pick_reps ((r1.mono l2).append r2) pm, w2, hm, k.mono (l1.trans l2)⟩⟩⟩) fun us s1 ⟨vs, H1, I1, r, q0, q⟩ => ?_) hpl he
    refine thn (hkw.run pos pins s1 σ H1 _ I1 q) fun ws s2 ⟨zs, H2, I2, rz, q1, q2⟩ => ⟨I2.kIn, ?_⟩
    rw [hks]
    exact run_kw G hr hb I2 r rz q0 q1 q2
  · cases hm
end
end My


namespace My
open PySem PySem.Spec PyProof.Rows L2

section
variable {X : Cx} {e a b : Expr} {es : List Expr} {ma mb : ME} {mr : MA} {mc md : MB} {pos p : Pos} {x : Str}
/-! ### names, constants -/
theorem x_v (i : Nat) (hN : X.N[i]? = some x := by rfl) (hv : Vis X.env.scope x := by first | exact Or.inl rfl | exact Or.inr (Or.inl rfl) | exact Or.inr (Or.inr rfl)) (hd : (x == ("__debug__" : Str)) = false := by decide)
    (hcd : (x == ("__classdict__" : Str)) = false := by decide) : PE X (.Name x pos) (eM (cyOf X) (mV i)) := PE.imp (pv i hN hv hd hcd) fun _ _ _ => em_v
theorem x_int {i : Int} {j} : PE X (.Constant (.int i) j pos) (eM (cyOf X) (mC (.int i))) := PE.imp pe_int fun _ _ _ => em_c fun _ _ => rfl
theorem x_bl {i : Bool} {j} : PE X (.Constant (.bool i) j pos) (eM (cyOf X) (mC (.bl i))) := PE.imp pe_bl fun _ _ _ => em_c fun _ _ => rfl
theorem x_non {j} : PE X (.Constant .none j pos) (eM (cyOf X) (mC .non)) := PE.imp pe_non fun _ _ _ => em_c fun _ _ => rfl
theorem x_str {i : Str} {j} : PE X (.Constant (.str i) j pos) (eM (cyOf X) (mC (.str i))) := PE.imp pe_str fun _ _ _ => em_c fun _ _ => rfl
theorem x_ty {n : String} (hg : Gl X x) (hm : X.mg x = none) (hv : bootBuiltins x = some (.type n)) (hn : x ≠ "__name__" := by decide) (hd : (x == ("__debug__" : Str)) = false := by decide) : PE X (.Name x pos) (eM (cyOf X) (mC (.ty n))) := PE.imp (pe_bltn hg hm hv (v := .ty n) rfl hn hd) fun _ _ _ => em_c fun _ _ => rfl
/-! ### operators -/
theorem x_op {op : Operator} {r : R2} {f : D → D → Sto → Option (D × Sto)} (ho : OpR X (binaryOp op) r) (ok : Ok2 (cyOf X) r f) (ha : PE X a (eM (cyOf X) ma)) (hb : PE X b (eM (cyOf X) mb)) : PE X (.BinOp a op b pos) (eM (cyOf X) (mOp f ma mb)) := PE.imp (pe_op ho ha hb) fun _ _ _ => em_op ok
theorem x_add (mu : Bool) (ha : PE X a (eM (cyOf X) ma)) (hb : PE X b (eM (cyOf X) mb)) : PE X (.BinOp a .Add b pos) (eM (cyOf X) (mOp (fAdd mu) ma mb)) := x_op op_addA ok_add ha hb
theorem x_sub (ha : PE X a (eM (cyOf X) ma)) (hb : PE X b (eM (cyOf X) mb)) : PE X (.BinOp a .Sub b pos) (eM (cyOf X) (mOp fSub ma mb)) := x_op op_sub ok_sub ha hb
theorem x_mul (mu : Bool) (ha : PE X a (eM (cyOf X) ma)) (hb : PE X b (eM (cyOf X) mb)) : PE X (.BinOp a .Mult b pos) (eM (cyOf X) (mOp (fMul mu) ma mb)) := x_op op_mulA ok_mul ha hb
theorem x_fdiv (ha : PE X a (eM (cyOf X) ma)) (hb : PE X b (eM (cyOf X) mb)) : PE X (.BinOp a .FloorDiv b pos) (eM (cyOf X) (mOp fDiv ma mb)) :=
  x_op op_fdivW (ok_fI fun i j h => by
    unfold cDiv at h
    rw [Bool.and_eq_true] at h
    exact ⟨of_decide_eq_true h.1, of_decide_eq_true h.2⟩) ha hb
theorem x_mod (ha : PE X a (eM (cyOf X) ma)) (hb : PE X b (eM (cyOf X) mb)) : PE X (.BinOp a .Mod b pos) (eM (cyOf X) (mOp fMod ma mb)) := x_op op_mod (ok_fI fun i j h => of_decide_eq_true h) ha hb
theorem x_pow (ha : PE X a (eM (cyOf X) ma)) (hb : PE X b (eM (cyOf X) mb)) : PE X (.BinOp a .Pow b pos) (eM (cyOf X) (mOp fPow ma mb)) := x_op op_pow (ok_fI fun i j h => cPow_ok h) ha hb
theorem x_shl (ha : PE X a (eM (cyOf X) ma)) (hb : PE X b (eM (cyOf X) mb)) : PE X (.BinOp a .LShift b pos) (eM (cyOf X) (mOp fShl ma mb)) := x_op op_shl (ok_fI fun i j h => cPow_ok h) ha hb
theorem x_neg (ha : PE X a (eM (cyOf X) ma)) : PE X (.UnaryOp .USub a pos) (eM (cyOf X) (mUn fNeg ma)) := PE.imp (pe_un un_neg ha) fun _ _ _ => em_un ok_neg
/-! ### comparisons -/
theorem x_cmp {op : CmpOp} {r : R2} {f : D → D → Sto → Option (D × Sto)} (ho : OpR X (compareOp op) r) (ok : Ok2 (cyOf X) r f) (ha : PE X a (eM (cyOf X) ma)) (hb : PE X b (eM (cyOf X) mb)) (hm : behindInMarks op b = false) : PE X (.Compare a [op] [b] pos) (eM (cyOf X) (mOp f ma mb)) := PE.imp (pe_cmpR ho ha hb hm) fun _ _ _ => em_op ok
theorem y_cmp {op : CmpOp} {r : R2} {f : D → D → Sto → Option (D × Sto)} (ho : OpR X (compareOp op) r) (ok : Ok2 (cyOf X) r f) (ha : PE X a (eM (cyOf X) ma)) (hb : PE X b (eM (cyOf X) mb)) (hm : behindInMarks op b = false) : PT X (.Compare a [op] [b] pos) (bM (cyOf X) (mTB (mOp f ma mb))) := PT.imp (pt_cmpR ho ha hb hm) fun _ _ _ h => em_op ok (bm_bool h)
theorem k_lt : OpR X (compareOp .Lt) rLtA ∧ Ok2 (cyOf X) rLtA fLt := ⟨op_ltA, ok_lt⟩
theorem k_le : OpR X (compareOp .LtE) (rI0 fun i j => .bl (decide (i ≤ j))) ∧ Ok2 (cyOf X) (rI0 fun i j => .bl (decide (i ≤ j))) fLe := ⟨op_le, ok_fB⟩
theorem k_gt : OpR X (compareOp .Gt) (rI0 fun i j => .bl (decide (j < i))) ∧ Ok2 (cyOf X) (rI0 fun i j => .bl (decide (j < i))) fGt := ⟨op_gt, ok_fB⟩
theorem k_ge : OpR X (compareOp .GtE) (rI0 fun i j => .bl (decide (j ≤ i))) ∧ Ok2 (cyOf X) (rI0 fun i j => .bl (decide (j ≤ i))) fGe := ⟨op_ge, ok_fB⟩
theorem k_eq {k : Nat} (hr : Room k X.A) : OpR X (compareOp .Eq) (rEqA X.K) ∧ Ok2 (cyOf X) (rEqA X.K) fEq := ⟨op_eqA hr.units, ok_eq⟩
theorem k_ne {k : Nat} (hr : Room k X.A) : OpR X (compareOp .NotEq) (rNeA X.K) ∧ Ok2 (cyOf X) (rNeA X.K) fNe := ⟨op_neA hr.units, ok_ne⟩
theorem k_in : OpR X (compareOp .In) (rIn X.K false) ∧ Ok2 (cyOf X) (rIn X.K false) (fIn false) := ⟨op_in_seq, ok_in⟩
theorem k_ni : OpR X (compareOp .NotIn) (rIn X.K true) ∧ Ok2 (cyOf X) (rIn X.K true) (fIn true) := ⟨op_notIn_seq, ok_in⟩
theorem k_is : OpR X (compareOp .Is) (fun x y H Q => y = .non ∧ Q (.bl (decide (x = .non))) H) ∧ Ok2 (cyOf X) (fun x y H Q => y = .non ∧ Q (.bl (decide (x = .non))) H) (fIsN false) := ⟨op_isN, ok_isN⟩
theorem k_isnot : OpR X (compareOp .IsNot) (fun x y H Q => y = .non ∧ Q (.bl (!decide (x = .non))) H) ∧ Ok2 (cyOf X) (fun x y H Q => y = .non ∧ Q (.bl (!decide (x = .non))) H) (fIsN true) := ⟨op_notN, ok_notN⟩
theorem x_k {op : CmpOp} {r : R2} {f : D → D → Sto → Option (D × Sto)} (h : OpR X (compareOp op) r ∧ Ok2 (cyOf X) r f) (ha : PE X a (eM (cyOf X) ma)) (hb : PE X b (eM (cyOf X) mb)) (hm : behindInMarks op b = false := by first | exact nomark _ | rfl) : PE X (.Compare a [op] [b] pos) (eM (cyOf X) (mOp f ma mb)) := x_cmp h.1 h.2 ha hb hm
theorem y_k {op : CmpOp} {r : R2} {f : D → D → Sto → Option (D × Sto)} (h : OpR X (compareOp op) r ∧ Ok2 (cyOf X) r f) (ha : PE X a (eM (cyOf X) ma)) (hb : PE X b (eM (cyOf X) mb)) (hm : behindInMarks op b = false := by first | exact nomark _ | rfl) : PT X (.Compare a [op] [b] pos) (bM (cyOf X) (mTB (mOp f ma mb))) := y_cmp h.1 h.2 ha hb hm
/-! ### truth -/
theorem y_t (ha : PE X e (eM (cyOf X) ma)) (he : ∀ whole, isTrue e X.env whole = (do let v ← whole; standAt e.pos; holding [v] (truthy v)) := by intro _; rfl) : PT X e (bM (cyOf X) (mT ma)) := PT.imp (pt_truth ha he) fun _ _ _ h => bm_tru h
theorem y_and1 (ha : PT X a (bM (cyOf X) mc)) : PW X (.BoolOp .And [a] pos) (bM (cyOf X) mc) := pw_and1 ha
theorem y_or1 (ha : PT X a (bM (cyOf X) mc)) : PW X (.BoolOp .Or [a] pos) (bM (cyOf X) mc) := pw_or1 ha
theorem y_and (ha : PT X a (bM (cyOf X) mc)) (hb : PW X (.BoolOp .And (b :: es) pos) (bM (cyOf X) md)) : PW X (.BoolOp .And (a :: b :: es) pos) (bM (cyOf X) (mAnd mc md)) := PW.imp (pw_and ha hb) fun _ _ _ => bm_and
theorem y_or (ha : PT X a (bM (cyOf X) mc)) (hb : PW X (.BoolOp .Or (b :: es) pos) (bM (cyOf X) md)) : PW X (.BoolOp .Or (a :: b :: es) pos) (bM (cyOf X) (mOr mc md)) := PW.imp (pw_or ha hb) fun _ _ _ => bm_or
theorem y_not (ha : PT X a (bM (cyOf X) mc)) : PT X (.UnaryOp .Not a pos) (bM (cyOf X) (mNot mc)) := PT.imp (pt_not ha) fun _ _ _ => bm_not
theorem x_one {op : BoolOp} (ha : PE X a (eM (cyOf X) ma)) : PE X (.BoolOp op [a] pos) (eM (cyOf X) ma) := pe_one ha
theorem x_and (ha : PE X a (eM (cyOf X) ma)) (hb : PE X (.BoolOp .And (b :: es) pos) (eM (cyOf X) mb)) : PE X (.BoolOp .And (a :: b :: es) pos) (eM (cyOf X) (mAndV ma mb)) := PE.imp (pe_and ha hb) fun _ _ _ => em_and
theorem x_or (ha : PE X a (eM (cyOf X) ma)) (hb : PE X (.BoolOp .Or (b :: es) pos) (eM (cyOf X) mb)) : PE X (.BoolOp .Or (a :: b :: es) pos) (eM (cyOf X) (mOrV ma mb)) := PE.imp (pe_or ha hb) fun _ _ _ => em_or
theorem x_not (ha : PE X a (eM (cyOf X) ma)) : PE X (.UnaryOp .Not a pos) (eM (cyOf X) (mNotV ma)) := PE.imp (pe_not ha) fun _ _ _ => em_not
theorem x_if {c : Expr} (hc : PT X c (bM (cyOf X) mc)) (ha : PE X a (eM (cyOf X) ma)) (hb : PE X b (eM (cyOf X) mb)) : PE X (.IfExp c a b pos) (eM (cyOf X) (mIf mc ma mb)) := PE.imp (pe_ifExp hc ha hb) fun _ _ _ => em_if
/-! ### arguments, displays, subscripts -/
theorem a_nil : PA X [] (aM (cyOf X) mNil) := PA.imp pa_nil fun _ _ _ => am_nil
theorem a_cons (ha : PE X e (eM (cyOf X) ma)) (hr : PA X es (aM (cyOf X) mr)) (hs : starEach (e :: es) X.env = (false, eval e X.env) :: starEach es X.env := by rfl) : PA X (e :: es) (aM (cyOf X) (mCons ma mr)) := PA.imp (pa_cons ha hr hs) fun _ _ _ => am_cons
theorem kw_nil : PK X [] (aM (cyOf X) mNil) := PK.imp pk_nil fun _ _ _ => am_nil
theorem kw_cons {nm : Option Str} {kws : List Keyword} (ha : PE X e (eM (cyOf X) ma)) (hr : PK X kws (aM (cyOf X) mr)) : PK X (⟨nm, e, pos⟩ :: kws) (aM (cyOf X) (mCons ma mr)) := PK.imp (pk_cons ha hr) fun _ _ _ => am_cons
theorem x_tup {k} (h : PA X es (aM (cyOf X) mr)) : PE X (.Tuple es k pos) (eM (cyOf X) (mTup mr)) := PE.imp (pe_tup h) fun _ _ _ => em_tup
theorem x_lst (mu : Bool) (h : PA X es (aM (cyOf X) mr)) : PE X (.List es pos) (eM (cyOf X) (mLst mu mr)) := PE.imp (pe_lst h) fun _ _ _ => em_lst
theorem x_ix (ha : PE X a (eM (cyOf X) ma)) (hb : PE X b (eM (cyOf X) mb)) (hs : PlainIx b := by exact fun _ _ => rfl) : PE X (.Subscript a b pos) (eM (cyOf X) (mOp fIx ma mb)) := PE.imp (pe_ix ix_A ha hb hs) fun _ _ _ => em_op ok_ix
theorem o_none : PO X none (oM (cyOf X) mNone) := ⟨fun pins s σ H Q I w => po_none.run pins s σ H Q I (om_none w)⟩
theorem o_some (he : PE X e (eM (cyOf X) ma)) : PO X (some e) (oM (cyOf X) (mSome ma)) := ⟨fun pins s σ H Q I w => (po_some he).run pins s σ H Q I (om_some w)⟩
theorem x_sl (mu : Bool) {lo hi : Option Expr} {ml mh : MO} (ha : PE X a (eM (cyOf X) ma)) (hl : PO X lo (oM (cyOf X) ml)) (hh : PO X hi (oM (cyOf X) mh)) : PE X (.Subscript a (.Slice lo hi none p) pos) (eM (cyOf X) (mSl mu ma ml mh)) := PE.imp (pe_slice sl_all ha hl hh) fun _ _ _ => em_sl
theorem x_rev (mu : Bool) {k : Nat} {p1 p2 p3 : Pos} (ha : PE X a (eM (cyOf X) ma)) : PE X (.Subscript a (.Slice none none (some (.UnaryOp .USub (.Constant (.int 1) k p1) p2)) p3) pos) (eM (cyOf X) (mRev mu ma)) := PE.imp (pe_revL ha) fun _ _ _ => em_rev
/-! ### built-ins, methods -/
theorem x_cb {id : String} {r : List V → Hp → VK → Prop} {f : List D → Sto → Option (D × Sto)} (h : CallR X (.builtin id) r ∧ OkC (cyOf X) r f) (hg : Gl X x) (hm : X.mg x = none) (hv : bootBuiltins x = some (.builtin id)) (ha : PA X (e :: es) (aM (cyOf X) mr)) (hn : x ≠ "__name__" := by decide) (hdb : (x == ("__debug__" : Str)) = false := by decide)
    (he : starEach (e :: es) X.env = (false, eval e X.env) :: starEach es X.env := by rfl) (hpl : (backTo pos (starEach es X.env)).any (·.1) = false := by rfl) : PE X (.Call (.Name x p) (e :: es) [] pos) (eM (cyOf X) (mCb f mr)) := PE.imp (pe_callB h.1 hg hm hv ha hn hdb he hpl) fun _ _ _ => em_cb h.2
theorem x_ct {id : String} {r : List V → Hp → VK → Prop} {f : List D → Sto → Option (D × Sto)} (h : CallR X (.type id) r ∧ OkC (cyOf X) r f) (hg : Gl X x) (hm : X.mg x = none) (hv : bootBuiltins x = some (.type id)) (ha : PA X (e :: es) (aM (cyOf X) mr)) (hn : x ≠ "__name__" := by decide) (hdb : (x == ("__debug__" : Str)) = false := by decide)
    (he : starEach (e :: es) X.env = (false, eval e X.env) :: starEach es X.env := by rfl) (hpl : (backTo pos (starEach es X.env)).any (·.1) = false := by rfl) : PE X (.Call (.Name x p) (e :: es) [] pos) (eM (cyOf X) (mCb f mr)) := PE.imp (pe_callTy h.1 hg hm hv ha hn hdb he hpl) fun _ _ _ => em_cb h.2
theorem x_cf {id : String} {r : List V → Hp → VK → Prop} {f : List D → Sto → Option (D × Sto)} (h : CallR X (.builtin id) r ∧ OkC (cyOf X) r f) (hg : Gl X x) (hm : X.mg x = some (.builtin id)) (ha : PA X (e :: es) (aM (cyOf X) mr)) (hdb : (x == ("__debug__" : Str)) = false := by decide)
    (he : starEach (e :: es) X.env = (false, eval e X.env) :: starEach es X.env := by rfl) (hpl : (backTo pos (starEach es X.env)).any (·.1) = false := by rfl) : PE X (.Call (.Name x p) (e :: es) [] pos) (eM (cyOf X) (mCb f mr)) := PE.imp (pe_callBfun h.1 hg hm ha hdb he hpl) fun _ _ _ => em_cb h.2
theorem c_len : CallR X (.builtin "len") (rLenA X.K) ∧ OkC (cyOf X) (rLenA X.K) fLen := ⟨call_lenA, ok_len⟩
theorem c_abs : CallR X (.builtin "abs") (fun xs H Q => ∃ i, xs = [.int i] ∧ Q (.int (if i < 0 then -i else i)) H) ∧ OkC (cyOf X) (fun xs H Q => ∃ i, xs = [.int i] ∧ Q (.int (if i < 0 then -i else i)) H) fAbs := ⟨call_abs, ok_abs⟩
theorem c_max (hc : X.calm = true := by rfl) : CallR X (.builtin "max") (rMaxA X.K) ∧ OkC (cyOf X) (rMaxA X.K) fMaxL := ⟨call_maxA hc, ok_max⟩
theorem c_min (hc : X.calm = true := by rfl) : CallR X (.builtin "min") (rMinA X.K) ∧ OkC (cyOf X) (rMinA X.K) fMinL := ⟨call_minA hc, ok_min⟩
theorem c_sorted (mu : Bool) : CallR X (.builtin "sorted") (rSortedI X.K) ∧ OkC (cyOf X) (rSortedI X.K) (fSorted mu) := ⟨cr_sortedI, ok_sorted⟩
theorem c_sum (hc : X.calm = true := by rfl) : CallR X (.builtin "sum") (rSum X.K) ∧ OkC (cyOf X) (rSum X.K) fSum := ⟨cr_sum hc, ok_sum⟩
theorem c_all (hc : X.calm = true := by rfl) : CallR X (.builtin "all") (rAll X.K) ∧ OkC (cyOf X) (rAll X.K) fAll := ⟨cr_all hc, ok_all⟩
theorem c_any (hc : X.calm = true := by rfl) : CallR X (.builtin "any") (rAny X.K) ∧ OkC (cyOf X) (rAny X.K) fAny := ⟨cr_any hc, ok_any⟩
theorem c_isi : CallR X (.builtin "isinstance") (rIsi X.K) ∧ OkC (cyOf X) (rIsi X.K) fIsi := ⟨call_isi, ok_isi⟩
theorem c_gcd : CallR X (.builtin "math.gcd") rGcd ∧ OkC (cyOf X) rGcd fGcd := ⟨cr_gcd, ok_gcd⟩
theorem c_int : CallR X (.type "int") (fun xs H Q => (∃ i, xs = [.int i] ∧ Q (.int i) H) ∨ ∃ k, xs = [.bl k] ∧ Q (.int (if k then 1 else 0)) H) ∧ OkC (cyOf X) (fun xs H Q => (∃ i, xs = [.int i] ∧ Q (.int i) H) ∨ ∃ k, xs = [.bl k] ∧ Q (.int (if k then 1 else 0)) H) fInt := ⟨call_int1, ok_int⟩
theorem c_tuple : CallR X (.type "tuple") (fun xs H Q => ∃ p ys, xs = [.ref p] ∧ ((SqL X.K H p ys ∧ ∀ l, H l = none → Q (.ref l) (upd H l (.tup ys))) ∨ (SqT X.K H p ys ∧ Q (.ref p) H))) ∧ OkC (cyOf X) (fun xs H Q => ∃ p ys, xs = [.ref p] ∧ ((SqL X.K H p ys ∧ ∀ l, H l = none → Q (.ref l) (upd H l (.tup ys))) ∨ (SqT X.K H p ys ∧ Q (.ref p) H))) fTuple := ⟨call_tuple_of, ok_tuple⟩
theorem c_list (mu : Bool) : CallR X (.type "list") (fun xs H Q => ∃ p ys, xs = [.ref p] ∧ (SqL X.K H p ys ∨ SqT X.K H p ys) ∧ ∀ l, H l = none → Q (.ref l) (upd H l (.lst ys))) ∧ OkC (cyOf X) (fun xs H Q => ∃ p ys, xs = [.ref p] ∧ (SqL X.K H p ys ∨ SqT X.K H p ys) ∧ ∀ l, H l = none → Q (.ref l) (upd H l (.lst ys))) (fList mu) := ⟨call_list_of, ok_list⟩
theorem x_append {apos cpos : Pos} {o e : Expr} {mo : ME} (ho : PE X o (eM (cyOf X) mo)) (ha : PA X [e] (aM (cyOf X) mr)) (hbase : attributeBase o "append" X.env (eval o X.env) = eval o X.env := by rfl)
    (hfew : ((backTo cpos (starEach [e] X.env)).all (fun x => !x.1) && (backToKw cpos (keywordEach [] X.env)).all (fun x => x.1.isSome) && decide ([e].length + ([] : List Keyword).length + (if ([] : List Keyword).isEmpty then 0 else 1) < 30)) = true := by rfl)
    (hline : (apos.endLine == cpos.line) = true := by rfl) (hs : starEach [e] X.env = (false, eval e X.env) :: starEach [] X.env := by rfl) (hplain : (backTo cpos (starEach [] X.env)).any (·.1) = false := by rfl) :
    PE X (.Call (.Attribute o "append" apos) [e] [] cpos) (eM (cyOf X) (mMt fAppend mo mr)) := PE.imp (pe_bm PySem.F.plainAttrs_list PySem.F.slot_list_append PySem.F.type_list_append mt_append ho ha hbase hfew hline hs hplain) fun _ _ _ => em_mt ok_append
theorem x_extend {apos cpos : Pos} {o e : Expr} {mo : ME} (ho : PE X o (eM (cyOf X) mo)) (ha : PA X [e] (aM (cyOf X) mr)) (hbase : attributeBase o "extend" X.env (eval o X.env) = eval o X.env := by rfl)
    (hfew : ((backTo cpos (starEach [e] X.env)).all (fun x => !x.1) && (backToKw cpos (keywordEach [] X.env)).all (fun x => x.1.isSome) && decide ([e].length + ([] : List Keyword).length + (if ([] : List Keyword).isEmpty then 0 else 1) < 30)) = true := by rfl)
    (hline : (apos.endLine == cpos.line) = true := by rfl) (hs : starEach [e] X.env = (false, eval e X.env) :: starEach [] X.env := by rfl) (hplain : (backTo cpos (starEach [] X.env)).any (·.1) = false := by rfl) :
    PE X (.Call (.Attribute o "extend" apos) [e] [] cpos) (eM (cyOf X) (mMt fExtend mo mr)) := PE.imp (pe_bm PySem.F.plainAttrs_list PySem.F.slot_list_extend PySem.F.type_list_extend mt_extend ho ha hbase hfew hline hs hplain) fun _ _ _ => em_mt ok_extend
theorem x_popi {apos cpos : Pos} {o e : Expr} {mo : ME} (ho : PE X o (eM (cyOf X) mo)) (ha : PA X [e] (aM (cyOf X) mr)) (hbase : attributeBase o "pop" X.env (eval o X.env) = eval o X.env := by rfl)
    (hfew : ((backTo cpos (starEach [e] X.env)).all (fun x => !x.1) && (backToKw cpos (keywordEach [] X.env)).all (fun x => x.1.isSome) && decide ([e].length + ([] : List Keyword).length + (if ([] : List Keyword).isEmpty then 0 else 1) < 30)) = true := by rfl)
    (hline : (apos.endLine == cpos.line) = true := by rfl) (hs : starEach [e] X.env = (false, eval e X.env) :: starEach [] X.env := by rfl) (hplain : (backTo cpos (starEach [] X.env)).any (·.1) = false := by rfl) :
    PE X (.Call (.Attribute o "pop" apos) [e] [] cpos) (eM (cyOf X) (mMt fPop mo mr)) := PE.imp (pe_bm PySem.F.plainAttrs_list PySem.F.slot_list_pop PySem.F.type_list_pop mt_popA ho ha hbase hfew hline hs hplain) fun _ _ _ => em_mt ok_pop
theorem x_pop {apos cpos : Pos} {o : Expr} {mo : ME} (ho : PE X o (eM (cyOf X) mo)) (hbase : attributeBase o "pop" X.env (eval o X.env) = eval o X.env := by rfl) (hline : (apos.endLine == cpos.line) = true := by rfl) :
    PE X (.Call (.Attribute o "pop" apos) [] [] cpos) (eM (cyOf X) (mMt fPop mo mNil)) := PE.imp (pe_bm0 PySem.F.plainAttrs_list PySem.F.slot_list_pop PySem.F.type_list_pop mt_popA ho hbase hline) fun _ _ _ => em_mt0 ok_pop
theorem x_frz (ha : PE X e (eM (cyOf X) ma)) : PE X e (eM (cyOf X) (mFrz ma)) := PE.imp ha fun _ _ _ => em_frz
/-! ### iterables, comprehensions -/
theorem i_seq {tg : Expr} (ha : PE X e (eM (cyOf X) ma)) : PI X tg e (iM (cyOf X) (miSeq ma)) := PI.imp (pi_seq ha) fun _ _ _ => im_seq
theorem i_rng1 {tg : Expr} (hg : Gl X "range") (hm : X.mg "range" = none) (ha : PA X [a] (aM (cyOf X) mr)) (hs : starEach [a] X.env = [(false, eval a X.env)] := by rfl) : PI X tg (.Call (.Name "range" p) [a] [] pos) (iM (cyOf X) (miRng1 mr)) := PI.imp (pi_range1 hg hm ha hs) fun _ _ _ => im_rng1
theorem i_rng2 {tg : Expr} (hg : Gl X "range") (hm : X.mg "range" = none) (ha : PA X [a, b] (aM (cyOf X) mr)) (hs : starEach [a, b] X.env = [(false, eval a X.env), (false, eval b X.env)] := by rfl) (hs2 : starEach [b] X.env = [(false, eval b X.env)] := by rfl) :
    PI X tg (.Call (.Name "range" p) [a, b] [] pos) (iM (cyOf X) (miRng2 mr)) := PI.imp (pi_range2 hg hm ha hs hs2) fun _ _ _ => im_rng2
/-! ### targets -/
theorem t_name (i : Nat) (hN : X.N.Nodup) (hi : X.N[i]? = some x) (hx : Loc X.env.scope x) (hf : X.fn x = true ∨ X.env.scope.names.lookup x = some .local := by first | exact .inl rfl | exact .inr rfl | assumption) : PG X (.Name x pos) (tgM (cyOf X) (.name i)) := PG.imp (pg_name hN hi hx hf) fun _ _ _ _ => tg_name
theorem ts_nil : PGs X [] (tgsM (cyOf X) []) := PGs.imp pgs_nil fun _ _ _ _ => tgs_nil
theorem ts_cons {t : Tg} {ts : List Tg} (h1 : PG X e (tgM (cyOf X) t)) (h2 : PGs X es (tgsM (cyOf X) ts)) (hs : (assignEach (e :: es) X.env).map (·.2) = assign e X.env :: (assignEach es X.env).map (·.2) := by rfl) : PGs X (e :: es) (tgsM (cyOf X) (t :: ts)) := PGs.imp (pgs_cons h1 h2 hs) fun _ _ _ _ => tgs_cons
theorem t_tup {k : Nat} {ts : List Tg} (hc : X.calm = true) (h : PGs X es (tgsM (cyOf X) ts)) (hn : (assignEach es X.env).length = ts.length := by rfl) (hst : (assignEach es X.env).findIdx? (·.1) = none := by rfl) : PG X (.Tuple es k pos) (tgM (cyOf X) (.tup ts)) := PG.imp (pg_tup hc h hn hst) fun _ _ _ _ => tg_tup
theorem g_T {T : Tg} (h : PG X e (tgM (cyOf X) T)) : PG X e (gM (cyOf X) (mgT T)) := PG.imp h fun _ _ _ _ => gm_T
theorem g_nil : PGs X [] (gsM (cyOf X) mgNil) := PGs.imp pgs_nil fun _ _ _ _ => gs_nil
theorem g_cons {t : MG} {ts : MGs} (h1 : PG X e (gM (cyOf X) t)) (h2 : PGs X es (gsM (cyOf X) ts)) (hs : (assignEach (e :: es) X.env).map (·.2) = assign e X.env :: (assignEach es X.env).map (·.2) := by rfl) : PGs X (e :: es) (gsM (cyOf X) (mgCons t ts)) := PGs.imp (pgs_cons h1 h2 hs) fun _ _ _ _ => gs_cons
theorem g_tup {k n : Nat} {ts : MGs} (hc : X.calm = true) (h : PGs X es (gsM (cyOf X) ts)) (hn : (assignEach es X.env).length = n := by rfl) (hst : (assignEach es X.env).findIdx? (·.1) = none := by rfl) : PG X (.Tuple es k pos) (gM (cyOf X) (mgTup n ts)) := PG.imp (pg_tup hc h hn hst) fun _ _ _ _ => gm_tup
theorem g_sub (ho : PE X a (eM (cyOf X) ma)) (hi : PE X b (eM (cyOf X) mb)) (ha : ∀ v, assign (.Subscript a b pos) X.env v = (do
      let ov ← holding [v] (eval a X.env)
      let iv ← holding [v, ov] (eval b X.env)
      standAt pos
      holding [v, ov, iv] (setItem ov iv v)
      release [v, ov, iv] []) := by intro _; rfl) : PG X (.Subscript a b pos) (gM (cyOf X) (mgSub ma mb fSetL)) := PG.imp (pg_sub ho hi set_list ha) fun _ _ _ _ => gm_sub ok_setL
end
section
variable {X : Cx} {tg e : Expr} {ifs : List Expr} {scope : Scope} {own : List (Str × Nat)} {pos : Pos} {mi : MI} {T : Tg} {tt : MB} {te : ME}
theorem cs_nil : PTs X [] (bM (cyOf X) mYes) := ⟨fun pins s σ H Q I w => pts_nil.run pins s σ H Q I (bm_yes w)⟩
theorem cs_one {c : Expr} {mc : MB} (h : PT X c (bM (cyOf X) mc)) : PTs X [c] (bM (cyOf X) mc) := pts_one h
theorem x_lc (mu : Bool) {elt iter : Expr} (hc : X.calm = true) (hN : X.N.Nodup) (hi : PI X tg iter (iM (cyOf X) mi)) (ok : BlkOk X.N X.env.scope scope own) (hsl : (T.slots.all fun i => (own.map (·.2)).contains i) = true)
    (hg : ∀ (s : Shared) (H : Hp) (C : Addr) (cl : List (Str × Addr)) (fp : List Addr), PG (X.blk s H scope (compEnvC scope cl C X.env) fp) tg (tgM (cyOf X) T)) (ht : ∀ (s : Shared) (H : Hp) (C : Addr) (cl : List (Str × Addr)) (fp : List Addr), PTs (X.blk s H scope (compEnvC scope cl C X.env) fp) ifs (bM (cyOf X) tt))
    (he : ∀ (s : Shared) (H : Hp) (C : Addr) (cl : List (Str × Addr)) (fp : List Addr), PE (X.blk s H scope (compEnvC scope cl C X.env) fp) elt (eM (cyOf X) te)) (hs : ∀ x, foldedSetIterable iter X.env x = pure x := by intro _; rfl) :
    PE X (.ListComp elt [⟨tg, iter, ifs, 0⟩] scope pos) (eM (cyOf X) (mLc mu mi T tt te (own.map (·.2)))) := PE.imp (pe_lc hc hN hi ok hg ht he hs) fun _ _ _ => em_lc fun i hi => by
    have h := List.all_eq_true.mp hsl i hi
    exact List.contains_iff_mem.mp h
theorem x_setLc (mu : Bool) {elt iter : Expr} {i : Nat} {y : Str} {py spos : Pos} (hc : X.calm = true) (hN : X.N.Nodup) (hy : X.N[i]? = some y) (hyl : X.env.scope.names.lookup y = some .local)
    (hsw : swapsWith (.ListComp elt [⟨tg, iter, ifs, 0⟩] scope pos) (some (.Name y py)) spos.line X.env = pure true) (hi : PI X tg iter (iM (cyOf X) mi)) (ok : BlkOk X.N X.env.scope scope own) (hsl : (T.slots.all fun i => (own.map (·.2)).contains i) = true)
    (hg : ∀ (s : Shared) (H : Hp) (C : Addr) (cl : List (Str × Addr)) (fp : List Addr), PG (X.blk s H scope (compEnvC scope cl C X.env) fp) tg (tgM (cyOf X) T)) (ht : ∀ (s : Shared) (H : Hp) (C : Addr) (cl : List (Str × Addr)) (fp : List Addr), PTs (X.blk s H scope (compEnvC scope cl C X.env) fp) ifs (bM (cyOf X) tt))
    (he : ∀ (s : Shared) (H : Hp) (C : Addr) (cl : List (Str × Addr)) (fp : List Addr), PE (X.blk s H scope (compEnvC scope cl C X.env) fp) elt (eM (cyOf X) te)) (hs : ∀ x, foldedSetIterable iter X.env x = pure x := by intro _; rfl) :
    PS X (.Assign [.Name y py] (.ListComp elt [⟨tg, iter, ifs, 0⟩] scope pos) spos) (sM (cyOf X) (mAsg (mLc mu mi T tt te (own.map (·.2))) (mgName i))) := PS.imp (ps_setLc hc hN hy hyl hsw hi ok hg ht he hs) fun N σ H h => by
    obtain ⟨H0, as, en, st, o, st', e, w, hm, k⟩ := sm_asg h
    refine em_lc (fun i hi => by
      have h := List.all_eq_true.mp hsl i hi
      exact List.contains_iff_mem.mp h) ⟨H0, as, en, st, o, st', e, w, hm, fun v H' as' H'' l w r => ?_⟩
    exact gm_name (k v H' as' H'' l w r)
end
/-! ### statements -/
section
variable {X : Cx} {st : Stmt} {rest body sa sb : List Stmt} {m1 m2 : MS} {e c : Expr} {me : ME} {mc : MB} {pos : Pos}
theorem z_nil : PSs X [] (sM (cyOf X) mNext) := PSs.imp pss_nil fun _ _ _ => sm_next
theorem z_cons (h1 : PS X st (sM (cyOf X) m1)) (h2 : PSs X rest (sM (cyOf X) m2)) : PSs X (st :: rest) (sM (cyOf X) (mSeq m1 m2)) := PSs.imp (pss_cons h1 h2) fun _ _ _ => sm_seq
theorem z_one (h1 : PS X st (sM (cyOf X) m1)) : PSs X [st] (sM (cyOf X) m1) := pss_one h1
theorem z_pass : PS X (.Pass pos) (sM (cyOf X) mNext) := PS.imp ps_pass fun _ _ _ => sm_next
theorem z_break : PS X (.Break pos) (sM (cyOf X) mBreak) := PS.imp ps_break fun _ _ _ => sm_break
theorem z_cont : PS X (.Continue pos) (sM (cyOf X) mCont) := PS.imp ps_continue fun _ _ _ => sm_cont
theorem z_never : PS X st (sM (cyOf X) mNever) := PS.imp ps_never fun _ _ _ => sm_never
theorem z_expr (he : PE X e (eM (cyOf X) me)) (hs : swapsWith e none pos.line X.env = pure false := by rfl) : PS X (.Expr e pos) (sM (cyOf X) (mDrop me)) := PS.imp (ps_expr he hs) fun _ _ _ => sm_drop
theorem z_ret (he : PE X e (eM (cyOf X) me)) : PS X (.Return (some e) pos) (sM (cyOf X) (mRet me)) := PS.imp (ps_ret he) fun _ _ _ => sm_ret
theorem z_retN : PS X (.Return none pos) (sM (cyOf X) mRetN) := PS.imp ps_retN fun _ _ _ => sm_retN
theorem z_if (hc : PT X c (bM (cyOf X) mc)) (ha : PSs X sa (sM (cyOf X) m1)) (hb : PSs X sb (sM (cyOf X) m2)) : PS X (.If c sa sb pos) (sM (cyOf X) (mIfS mc m1 m2)) := PS.imp (ps_if hc ha hb) fun _ _ _ => sm_if
theorem z_set {x : Str} {pos' : Pos} (i : Nat) (hN : X.N.Nodup) (hi : X.N[i]? = some x) (hx : Loc X.env.scope x) (he : PE X e (eM (cyOf X) me)) (hs : swapsWith e (some (.Name x pos')) pos.line X.env = pure false := by rfl) (hf : X.fn x = true ∨ X.env.scope.names.lookup x = some .local := by first | exact .inl rfl | exact .inr rfl | assumption) :
    PS X (.Assign [.Name x pos'] e pos) (sM (cyOf X) (mAsg me (mgName i))) := PS.imp (ps_set hN hi hx he hs hf) fun N σ H h => by
    obtain ⟨H0, as, en, st, o, st', e, w, hm, k⟩ := sm_asg h
    exact ⟨H0, as, en, st, o, st', e, w, hm, fun v H' as' H'' l w r => gm_name (k v H' as' H'' l w r)⟩
theorem z_asg {tg : Expr} {g : MG} (he : PE X e (eM (cyOf X) me)) (hg : PG X tg (gM (cyOf X) g)) (hs : swapsWithSole [tg] e pos.line X.env = pure false := by rfl) (hw : swappedStores [tg] e X.env = pure none := by rfl)
    (h1 : (assignEach [tg] X.env).map (·.2) = [assign tg X.env] := by rfl) : PS X (.Assign [tg] e pos) (sM (cyOf X) (mAsg me g)) := PS.imp (ps_asg he hg hs hw h1) fun _ _ _ => sm_asg
theorem z_par (i j : Nat) {x y : Str} {a b : Expr} {mr : MA} {px py pt : Pos} {kt k2 pt2} (hc : X.calm = true) (hN : X.N.Nodup) (hi : X.N[i]? = some x) (hj : X.N[j]? = some y) (hij : i ≠ j)
    (hx : X.env.scope.names.lookup x = some .local) (hy : X.env.scope.names.lookup y = some .local) (ha : PA X [a, b] (aM (cyOf X) mr))
    (hw : swappedStores [.Tuple [.Name x px, .Name y py] kt pt] (.Tuple [a, b] k2 pt2) X.env = pure (some [x, y]) := by rfl)
    (hs : swapsWithSole [.Tuple [.Name x px, .Name y py] kt pt] (.Tuple [a, b] k2 pt2) pos.line X.env = pure false := by rfl) :
    PS X (.Assign [.Tuple [.Name x px, .Name y py] kt pt] (.Tuple [a, b] k2 pt2) pos) (sM (cyOf X) (mPar i j mr)) := PS.imp (ps_par hc hN hi hj hij hx hy ha hw hs) fun _ _ _ => sm_par
theorem z_aug {x : Str} {pos' : Pos} {op : Operator} {t : TIp} {f : D → D → Sto → Option (D × Sto)} (i : Nat) (hN : X.N.Nodup) (hi : X.N[i]? = some x) (hx : Loc X.env.scope x) (h : PIp X op t ∧ Ok2 (cyOf X) t f) (he : PE X e (eM (cyOf X) me)) (hf : X.fn x = true ∨ X.env.scope.names.lookup x = some .local := by first | exact .inl rfl | exact .inr rfl | assumption) :
    PS X (.AugAssign (.Name x pos') op e pos) (sM (cyOf X) (mAug i me f)) := PS.imp (ps_aug hN hi hx he h.1 hf) fun _ _ _ => sm_aug h.2
theorem ip_addM : PIp X .Add (ipI fun i j => i + j) ∧ Ok2 (cyOf X) (ipI fun i j => i + j) (fI (fun _ _ => true) fun i j => i + j) := ⟨ip_add, fun H0 as st H dx dy x y d st' Q w rx ry hf k => by
  obtain ⟨i, j, e1, e2, _, q⟩ := ok_fI (C := cyOf X) (P := fun _ _ => True) (fun _ _ _ => trivial) H0 as st H dx dy x y d st' Q w rx ry hf k
  exact ⟨i, j, e1, e2, q⟩⟩
theorem ip_subM : PIp X .Sub (ipI fun i j => i - j) ∧ Ok2 (cyOf X) (ipI fun i j => i - j) (fI (fun _ _ => true) fun i j => i - j) := ⟨ip_sub, fun H0 as st H dx dy x y d st' Q w rx ry hf k => by
  obtain ⟨i, j, e1, e2, _, q⟩ := ok_fI (C := cyOf X) (P := fun _ _ => True) (fun _ _ _ => trivial) H0 as st H dx dy x y d st' Q w rx ry hf k
  exact ⟨i, j, e1, e2, q⟩⟩
theorem z_while (hp : PassesOwn (model X.prog X.w) X.A X.env X.xe) (hc : PT X c (bM (cyOf X) mc)) (hb : PSs X body (sM (cyOf X) m1)) : PS X (.While c body [] pos) (sM (cyOf X) (mWh mc m1)) := PS.imp (ps_while hp hc hb) fun _ _ _ => sm_while
theorem z_for {tg iter : Expr} {mi : MI} {T : Tg} (hp : PassesOwn (model X.prog X.w) X.A X.env X.xe) (hc : X.calm = true) (hi : PI X tg iter (iM (cyOf X) mi)) (hg : PG X tg (tgM (cyOf X) T)) (hb : PSs X body (sM (cyOf X) m1))
    (hs : ∀ x, foldedSetIterable iter X.env x = pure x := by intro _; rfl) : PS X (.For tg iter body [] pos) (sM (cyOf X) (mFor mi T m1)) := PS.imp (ps_for hp hc hi hg hb hs) fun _ _ _ => sm_for
end
end My
namespace My
open PySem
/-- a def's text by places -/
def stmtAt (l : List Stmt) (i : Nat) : Stmt := l.getD i (.Pass ⟨0, 0, 0, 0⟩)
def bodyOf : Stmt → List Stmt
  | .For _ _ b _ _ => b
  | .While _ b _ _ => b
  | .If _ b _ _ => b
  | _ => []
def elseOf : Stmt → List Stmt
  | .If _ _ b _ => b
  | _ => []
end My


namespace My
open PySem PySem.Spec PyProof.Rows L2

/-! ### dicts whose keys are ints and texts -/
def keyOf : D → Option Key
  | .int i => some (.inl i)
  | .str x => some (.inr x)
  | _ => none
def keyD : Key → D
  | .inl i => .int i
  | .inr x => .str x
def valD (kvs : List (Key × D)) (k : Key) : Option D := (kvs.find? fun kv => decide (kv.1 = k)).map (·.2)
def putD (kvs : List (Key × D)) (k : Key) (d : D) : List (Key × D) :=
  if (kvs.any fun kv => decide (kv.1 = k)) = true then kvs.map (fun kv => if kv.1 = k then (kv.1, d) else kv) else kvs ++ [(k, d)]
section
variable {C : Cy} {H : Hb} {as : List Addr}
theorem rep_key {d : D} {k : Key} {v : V} (h : keyOf d = some k) (r : Rep C H as d v) : v = kV k := by
  cases d with
  | int i => cases h; exact r
  | str i => cases h; exact r
  | _ => cases h
theorem rep_keyD : ∀ k : Key, Rep C H as (keyD k) (kV k)
  | .inl _ => rfl
  | .inr _ => rfl
theorem RepKV.val : ∀ {kvs : List (Key × D)} {vs : List (Key × V)} (k : Key), RepKV C H as kvs vs → (valV vs k).isSome = (valD kvs k).isSome ∧ ∀ d, valD kvs k = some d → ∃ v, valV vs k = some v ∧ Rep C H as d v
  | [], _, k, h => by
    have h : _ = [] := h
    subst h
    exact ⟨rfl, fun d e => by cases e⟩
  | (j, d) :: kvs, _, k, h => by
    obtain ⟨v, r, rfl, h1, h2⟩ := h
    by_cases e : j = k
    · rw [valV_pos (p := (j, v)) e]
      unfold valD
      rw [List.find?_cons_of_pos (by simpa using e)]
      exact ⟨rfl, fun d' e' => by cases e'; exact ⟨v, rfl, h1⟩⟩
    · rw [valV_neg (p := (j, v)) e]
      have := RepKV.val k h2
      unfold valD at this ⊢
      rw [List.find?_cons_of_neg (by simpa using e)]
      exact this
theorem RepKV.any : ∀ {kvs : List (Key × D)} {vs : List (Key × V)} (k : Key), RepKV C H as kvs vs → (vs.any fun kv => decide (kv.1 = k)) = (kvs.any fun kv => decide (kv.1 = k))
  | [], _, k, h => by
    have h : _ = [] := h
    subst h
    rfl
  | (j, d) :: kvs, _, k, h => by
    obtain ⟨v, r, rfl, h1, h2⟩ := h
    rw [List.any_cons, List.any_cons, RepKV.any k h2]
theorem RepKV.mapPut {d : D} {v : V} (k : Key) (hr : Rep C H as d v) : ∀ {kvs : List (Key × D)} {vs : List (Key × V)}, RepKV C H as kvs vs → RepKV C H as (kvs.map fun kv => if kv.1 = k then (kv.1, d) else kv) (vs.map fun kv => if kv.1 = k then (kv.1, v) else kv)
  | [], _, h => by
    have h : _ = [] := h
    subst h
    rfl
  | (j, d') :: kvs, _, h => by
    obtain ⟨v', r, rfl, h1, h2⟩ := h
    rw [List.map_cons, List.map_cons]
    by_cases e : j = k
    · simp only [if_pos e]
      exact ⟨v, _, rfl, hr, RepKV.mapPut k hr h2⟩
    · simp only [if_neg e]
      exact ⟨v', _, rfl, h1, RepKV.mapPut k hr h2⟩
theorem RepKV.snoc {d : D} {v : V} (k : Key) (hr : Rep C H as d v) : ∀ {kvs : List (Key × D)} {vs : List (Key × V)}, RepKV C H as kvs vs → RepKV C H as (kvs ++ [(k, d)]) (vs ++ [(k, v)])
  | [], _, h => by
    have h : _ = [] := h
    subst h
    exact ⟨v, [], rfl, hr, rfl⟩
  | (j, d') :: kvs, _, h => by
    obtain ⟨v', r, rfl, h1, h2⟩ := h
    exact ⟨v', r ++ [(k, v)], rfl, h1, RepKV.snoc k hr h2⟩
theorem RepKV.put {d : D} {v : V} (k : Key) (hr : Rep C H as d v) {kvs : List (Key × D)} {vs : List (Key × V)} (h : RepKV C H as kvs vs) : RepKV C H as (putD kvs k d) (putK vs k v) := by
  unfold putD putK
  rw [h.any k]
  split
  · exact h.mapPut k hr
  · exact h.snoc k hr
theorem RepKV.length : ∀ {kvs : List (Key × D)} {vs : List (Key × V)}, RepKV C H as kvs vs → kvs.length = vs.length
  | [], _, h => by
    have h : _ = [] := h
    subst h
    rfl
  | (j, d) :: kvs, _, h => by
    obtain ⟨v, r, rfl, h1, h2⟩ := h
    simp [RepKV.length h2]
theorem RepKV.keys : ∀ {kvs : List (Key × D)} {vs : List (Key × V)}, RepKV C H as kvs vs → Reps C H as (kvs.map fun kv => keyD kv.1) (vs.map fun kv => kV kv.1)
  | [], _, h => by
    have h : _ = [] := h
    subst h
    rfl
  | (j, d) :: kvs, _, h => by
    obtain ⟨v, r, rfl, h1, h2⟩ := h
    exact ⟨kV j, _, rfl, rep_keyD j, RepKV.keys h2⟩
end
section
variable {C : Cy} {H0 : Hb} {H : Hp} {as : List Addr} {st st' : Sto}
theorem WR.dk (w : WR C H0 as st H) {n : Nat} {kvs : List (Key × D)} (h : st[n]? = some (.dK kvs)) : ∃ a vs, as[n]? = some a ∧ H0.h a = none ∧ H a = some (.dK vs) ∧ RepKV C H0 as kvs vs := by
  have hl : n < as.length := by rw [w.len]; exact (List.getElem?_eq_some_iff.mp h).1
  rcases w.own n _ _ (List.getElem?_eq_getElem hl) h with z | ⟨z, ho, h1, vs, rfl, h2⟩
  · cases z
  · exact ⟨as[n], vs, List.getElem?_eq_getElem hl, z, h1, h2⟩
end
def lookK (d : D) (st : Sto) : Option (List (Key × D)) := match d with
  | .loc n => match st[n]? with
    | some (.dK kvs) => some kvs
    | _ => none
  | _ => none
theorem lookK_ok {C : Cy} {H0 : Hb} {H : Hp} {as : List Addr} {st : Sto} {d : D} {x : V} {kvs : List (Key × D)} (w : WR C H0 as st H) (r : Rep C H0 as d x) (h : lookK d st = some kvs) : ∃ n a vs, d = .loc n ∧ st[n]? = some (.dK kvs) ∧ as[n]? = some a ∧ x = .ref a ∧ H0.h a = none ∧ H a = some (.dK vs) ∧ RepKV C H0 as kvs vs := by
  cases d with
  | loc n =>
    unfold lookK at h
    dsimp only at h
    split at h
    · rename_i he
      cases h
      obtain ⟨a, vs, h1, h2, h3, h4⟩ := w.dk he
      obtain ⟨a', ha', e⟩ := r
      rw [h1] at ha'
      cases ha'
      exact ⟨n, a, vs, rfl, he, h1, e, h2, h3, h4⟩
    · cases h
  | _ => cases h
/-- to be read: a dict of the store, or one that a loop goes through -/
def lookR (d : D) (st : Sto) : Option (List (Key × D)) := match d with
  | .fdk _ ks ds => some (ks.zip ds)
  | d => lookK d st
theorem RepKV.zip {C : Cy} {H : Hb} {as : List Addr} : ∀ {ks : List Key} {ds : List D} {vs : List V}, Reps C H as ds vs → RepKV C H as (ks.zip ds) (ks.zip vs)
  | [], _, _, _ => rfl
  | k :: ks, [], vs, h => by
    have h : vs = [] := h
    subst h
    rfl
  | k :: ks, d :: ds, vs, h => by
    obtain ⟨v, r, rfl, h1, h2⟩ := h
    exact ⟨v, _, rfl, h1, RepKV.zip h2⟩
theorem lookR_ok {C : Cy} {H0 : Hb} {H : Hp} {as : List Addr} {st : Sto} {d : D} {x : V} {kvs : List (Key × D)} (w : WR C H0 as st H) (r : Rep C H0 as d x) (h : lookR d st = some kvs) : ∃ a vs, x = .ref a ∧ Rd H a (.dK vs) ∧ RepKV C H0 as kvs vs := by
  have go : lookK d st = some kvs → ∃ a vs, x = .ref a ∧ Rd H a (.dK vs) ∧ RepKV C H0 as kvs vs := fun h => by
    obtain ⟨n, a, vs, _, _, _, e, _, h1, h2⟩ := lookK_ok w r h
    exact ⟨a, vs, e, .inl h1, h2⟩
  cases d with
  | fdk n ks ds =>
    cases h
    obtain ⟨a, ob, vs, ha, e, hs, hl, hr⟩ := r
    exact ⟨a, _, e, .inr ⟨ob, w.ex _ _ hs⟩, RepKV.zip hr⟩
  | _ => exact go h
/-- d[k] -/
def fGet (a b : D) (st : Sto) : Option (D × Sto) := (lookR a st).bind fun kvs => (keyOf b).bind fun k => (valD kvs k).map fun d => (d, st)
def fInK (neg : Bool) (a b : D) (st : Sto) : Option (D × Sto) := (lookR b st).bind fun kvs => (keyOf a).map fun k => (.bl (if neg then !(valD kvs k).isSome else (valD kvs k).isSome), st)
def fSetK (a b c : D) (st : Sto) : Option Sto := match a with
  | .loc n => (lookK a st).bind fun kvs => (keyOf b).bind fun k => if kvs.length < sizeLine then some (st.set n (.dK (putD kvs k c))) else none
  | _ => none
def mDNew : ME := fun _ st => some (.loc st.length, st ++ [.dK []])
def fLenK (ds : List D) (st : Sto) : Option (D × Sto) := match ds with
  | [d] => (lookR d st).map fun kvs => (.int kvs.length, st)
  | _ => none
def fListK (mu : Bool) (ds : List D) (st : Sto) : Option (D × Sto) := match ds with
  | [d] => (lookR d st).map fun kvs => alloc mu (kvs.map fun kv => keyD kv.1) st
  | _ => none
section
variable {C : Cy} {X : Cx}
def rGetK : R2 := fun x y H Q => ∃ a v, x = .ref a ∧ DGet H a y (some v) ∧ Q v H
theorem ok_getK : Ok2 C rGetK fGet := by
  intro H0 as st H dx dy x y d st' Q w rx ry hf k
  unfold fGet at hf
  obtain ⟨kvs, h1, hf⟩ := Option.bind_eq_some_iff.mp hf
  obtain ⟨key, h2, hf⟩ := Option.bind_eq_some_iff.mp hf
  obtain ⟨d', h3, e⟩ := Option.map_eq_some_iff.mp hf
  cases e
  obtain ⟨a, vs, rfl, hH, hr⟩ := lookR_ok w rx h1
  cases rep_key h2 ry
  obtain ⟨v, hv, rv⟩ := (hr.val key).2 _ h3
  exact ⟨a, v, rfl, by rw [← hv]; exact .inl ⟨vs, key, hH, rfl, rfl⟩, k.val w rv⟩
def rInK (neg : Bool) : R2 := fun y x H Q => ∃ a o, x = .ref a ∧ DGet H a y o ∧ Q (.bl (if neg then !o.isSome else o.isSome)) H
theorem op_inK (hu : X.A.units + 64 < cLine) : OpR X (compareOp .In) (rInK false) := by
  rintro pins s σ H y x u v Q I ry rx ⟨a, o, rfl, g, q⟩
  obtain rfl : v = Value.ref a := rx
  exact d_in (by omega) I g ry fun s' I' => ⟨.bl o.isSome, H, I', rfl, q⟩
theorem op_niK (hu : X.A.units + 64 < cLine) : OpR X (compareOp .NotIn) (rInK true) := by
  rintro pins s σ H y x u v Q I ry rx ⟨a, o, rfl, g, q⟩
  obtain rfl : v = Value.ref a := rx
  exact d_notIn (by omega) I g ry fun s' I' => ⟨.bl (!o.isSome), H, I', rfl, q⟩
theorem ok_inK {neg : Bool} : Ok2 C (rInK neg) (fInK neg) := by
  intro H0 as st H dx dy x y d st' Q w rx ry hf k
  unfold fInK at hf
  obtain ⟨kvs, h1, hf⟩ := Option.bind_eq_some_iff.mp hf
  obtain ⟨key, h2, e⟩ := Option.map_eq_some_iff.mp hf
  cases e
  obtain ⟨a, vs, rfl, hH, hr⟩ := lookR_ok w ry h1
  cases rep_key h2 rx
  refine ⟨a, _, rfl, .inl ⟨vs, key, hH, rfl, rfl⟩, ?_⟩
  rw [(hr.val key).1]
  exact k.val w rfl
def rSetK : TSet := fun o i v H Q => ∃ a H', o = .ref a ∧ DPut H a i v H' ∧ Q H'
theorem set_K (hu : X.A.units + 64 < cLine) : PSet X rSetK := by
  rintro pins s σ H o i v ov iv u Q I ro ri rv ⟨a, H', rfl, g, q⟩
  obtain rfl : ov = Value.ref a := ro
  exact d_setItem (by omega) I g ri rv fun s' I' => ⟨H', I', q⟩
theorem ok_setK : OkS C rSetK fSetK := by
  intro H0 as st H a b c x y z st' Q w rx ry rz hf k
  unfold fSetK at hf
  split at hf
  · obtain ⟨kvs, h1, hf⟩ := Option.bind_eq_some_iff.mp hf
    obtain ⟨key, h2, hf⟩ := Option.bind_eq_some_iff.mp hf
    split at hf
    · rename_i hl
      cases hf
      obtain ⟨n, a, vs, e, he, ha, rfl, hn, hH, hr⟩ := lookK_ok w rx h1
      cases e
      cases rep_key h2 ry
      exact ⟨a, _, rfl, DPut.k hH (by rw [← hr.length]; exact hl), k H0 as _ Le.refl (w.put ha hn ⟨_, rfl, hr.put key rz⟩)⟩
    · cases hf
  · cases hf
theorem em_dnew {σ : L2.St} {H : Hp} {Q : VK} : eM C mDNew σ H Q → tDNewK σ H Q := by
  rintro ⟨H0, as, en, st, d, st', e, w, hm, k⟩
  cases hm
  intro p hp
  obtain ⟨w', l⟩ := w.push (o := .dK []) hp ⟨[], rfl, rfl⟩
  exact k (.ref p) _ _ _ l w' ⟨p, by rw [← w.len]; simp, rfl⟩
theorem call_lenK : CallR X (.builtin "len") (fun xs H Q => ∃ a kvs, xs = [.ref a] ∧ Rd H a (.dK kvs) ∧ Q (.int (kvs.length : Nat)) H) := by
  rintro pins s σ H vs us Q I r ⟨a, kvs, rfl, h, q⟩
  rw [Vals.ref1 r]
  exact d_len I h fun t s' I' => ⟨.int (kvs.length : Nat), H, I', ⟨t, rfl⟩, q⟩
theorem ok_lenK : OkC C (fun xs H Q => ∃ a kvs, xs = [.ref a] ∧ Rd H a (.dK kvs) ∧ Q (.int (kvs.length : Nat)) H) fLenK := by
  intro H0 as st H ds vs d st' Q w r hf k
  unfold fLenK at hf
  split at hf
  · obtain ⟨kvs, h1, e⟩ := Option.map_eq_some_iff.mp hf
    cases e
    obtain ⟨v, rfl, rv⟩ := reps1 r
    obtain ⟨a, vs, rfl, hH, hr⟩ := lookR_ok w rv h1
    refine ⟨a, vs, rfl, hH, ?_⟩
    rw [← hr.length]
    exact k.val w rfl
  · cases hf
theorem ok_listK {mu : Bool} : OkC C (fun xs H Q => ∃ (a : Addr) (kvs : List (Key × V)), xs = [.ref a] ∧ Rd H a (.dK kvs) ∧ ∀ p, H p = none → Q (.ref p) (upd H p (.lst (kvs.map fun kv => kV kv.1)))) (fListK mu) := by
  intro H0 as st H ds vs d st' Q w r hf k
  unfold fListK at hf
  split at hf
  · obtain ⟨kvs, h1, e⟩ := Option.map_eq_some_iff.mp hf
    obtain ⟨v, rfl, rv⟩ := reps1 r
    obtain ⟨a, vs, rfl, hH, hr⟩ := lookR_ok w rv h1
    exact ⟨a, vs, rfl, hH, k.newA e w hr.keys⟩
  · cases hf
end
section
variable {X : Cx} {a b : Expr} {ma mb : ME} {pos : Pos}
theorem x_dget {k : Nat} (hr : Room k X.A) (ha : PE X a (eM (cyOf X) ma)) (hb : PE X b (eM (cyOf X) mb)) (hs : PlainIx b := by exact fun _ _ => rfl) : PE X (.Subscript a b pos) (eM (cyOf X) (mOp fGet ma mb)) :=
  PE.imp (pe_dget (by have := hr.units; omega) ha hb hs) fun _ _ _ h => em_op ok_getK h
theorem x_dnew : PE X (.Dict [] [] pos) (eM (cyOf X) mDNew) := PE.imp pe_dnewK fun _ _ _ => em_dnew
theorem k_inK {k : Nat} (hr : Room k X.A) : OpR X (compareOp .In) (rInK false) ∧ Ok2 (cyOf X) (rInK false) (fInK false) := ⟨op_inK hr.units, ok_inK⟩
theorem k_niK {k : Nat} (hr : Room k X.A) : OpR X (compareOp .NotIn) (rInK true) ∧ Ok2 (cyOf X) (rInK true) (fInK true) := ⟨op_niK hr.units, ok_inK⟩
theorem c_lenK : CallR X (.builtin "len") (fun xs H Q => ∃ a kvs, xs = [.ref a] ∧ Rd H a (.dK kvs) ∧ Q (.int (kvs.length : Nat)) H) ∧ OkC (cyOf X) (fun xs H Q => ∃ a kvs, xs = [.ref a] ∧ Rd H a (.dK kvs) ∧ Q (.int (kvs.length : Nat)) H) fLenK := ⟨call_lenK, ok_lenK⟩
theorem c_listK (mu : Bool) (hc : X.calm = true := by rfl) : CallR X (.type "list") (fun xs H Q => ∃ (a : Addr) (kvs : List (Key × V)), xs = [.ref a] ∧ Rd H a (.dK kvs) ∧ ∀ p, H p = none → Q (.ref p) (upd H p (.lst (kvs.map fun kv => kV kv.1)))) ∧ OkC (cyOf X) (fun xs H Q => ∃ (a : Addr) (kvs : List (Key × V)), xs = [.ref a] ∧ Rd H a (.dK kvs) ∧ ∀ p, H p = none → Q (.ref p) (upd H p (.lst (kvs.map fun kv => kV kv.1)))) (fListK mu) := ⟨call_listD hc, ok_listK⟩
theorem g_subK {k : Nat} (hr : Room k X.A) (ho : PE X a (eM (cyOf X) ma)) (hi : PE X b (eM (cyOf X) mb)) (ha : ∀ v, assign (.Subscript a b pos) X.env v = (do
      let ov ← holding [v] (eval a X.env)
      let iv ← holding [v, ov] (eval b X.env)
      standAt pos
      holding [v, ov, iv] (setItem ov iv v)
      release [v, ov, iv] []) := by intro _; rfl) : PG X (.Subscript a b pos) (gM (cyOf X) (mgSub ma mb fSetK)) := PG.imp (pg_sub ho hi (set_K hr.units) ha) fun _ _ _ _ => gm_sub ok_setK
end
end My


namespace My
open PySem PySem.Spec PyProof.Rows L2

/-! ### going through a dict -/
section
variable {X : Cx}
/-- the statement runs while the thing at d is locked, whatever lock stands there behind it -/
def tLk (t : TS) : TS := fun D σ H => ∃ d u, H d = some u ∧ Mut (some u) ∧ ∀ od, t ⟨fun σ' H' => ∃ o' u', H' d = some (.frz o' u') ∧ D.nx σ' (upd H' d u'), fun v H' => ∃ o' u', H' d = some (.frz o' u') ∧ D.rt v (upd H' d u'), fun σ' H' => ∃ o' u', H' d = some (.frz o' u') ∧ D.bk σ' (upd H' d u'), fun σ' H' => ∃ o' u', H' d = some (.frz o' u') ∧ D.ct σ' (upd H' d u')⟩ σ (upd H d (.frz od u))
def tLkE (t : TE) : TE := fun σ H Q => ∃ d u, H d = some u ∧ Mut (some u) ∧ ∀ od, t σ (upd H d (.frz od u)) fun v H' => ∃ o' u', H' d = some (.frz o' u') ∧ Q v (upd H' d u')
theorem ps_lk {st : Stmt} {t : TS} (h : PS X st t) : PS X st (tLk t) := by
  refine ⟨fun pins s σ H D I hw => ?_⟩
  obtain ⟨d, u, hd, mu, hw⟩ := hw
  obtain ⟨od, I1⟩ := I.lock hd mu
  refine thn (h.run pins s σ _ _ I1 (hw od)) fun f s1 q => ?_
  cases f with
  | next => obtain ⟨σ', H', I2, _, _, e, q⟩ := q; exact ⟨σ', _, I2.unlock e (I.nofrz hd mu), q⟩
  | brk => obtain ⟨σ', H', I2, _, _, e, q⟩ := q; exact ⟨σ', _, I2.unlock e (I.nofrz hd mu), q⟩
  | cont => obtain ⟨σ', H', I2, _, _, e, q⟩ := q; exact ⟨σ', _, I2.unlock e (I.nofrz hd mu), q⟩
  | ret v => obtain ⟨x, σ', H', I2, r, _, _, e, q⟩ := q; exact ⟨x, σ', _, I2.unlock e (I.nofrz hd mu), r, q⟩
theorem pe_lk {e : Expr} {t : TE} (h : PE X e t) : PE X e (tLkE t) := by
  refine ⟨fun pins s σ H Q I hw => ?_⟩
  obtain ⟨d, u, hd, mu, hw⟩ := hw
  obtain ⟨od, I1⟩ := I.lock hd mu
  refine thn (h.run pins s σ _ _ I1 (hw od)) fun v s1 ⟨x, H1, I2, r, _, _, e2, q⟩ => ?_
  exact ⟨x, _, I2.unlock e2 (I.nofrz hd mu), r, q⟩
end

/-! ### the keys -/
def miKeys (m : ME) : MI := fun en st => (m en st).bind fun p => match p.1 with
  | .fdk _ ks _ => some (⟨ks.map keyD, none⟩, p.2)
  | _ => none
section
variable {C : Cy}
theorem itOk_keys {a : Addr} {ob : Obj} {ks : List Key} {vs : List V} {H0 : Hb} {as : List Addr} (hl : ks.length = vs.length) (q0 : H0.h a = some (.frz ob (.dK (ks.zip vs)))) : ItOk C (Itk a ob (ks.zip vs)) ⟨ks.map keyD, none⟩ H0 as := by
  intro H1 as1 st H i l w _
  have q : H a = some (.frz ob (.dK (ks.zip vs))) := w.ex _ _ (l.same _ _ q0)
  have hz : (ks.zip vs).length = ks.length := by rw [List.length_zip]; omega
  refine ⟨fun d hd => ?_, fun hi => ⟨q, by rw [hz]; simpa using hi⟩⟩
  rw [List.getElem?_map] at hd
  obtain ⟨k, hk, rfl⟩ := Option.map_eq_some_iff.mp hd
  have hlt := (List.getElem?_eq_some_iff.mp hk).1
  refine ⟨⟨q, by rw [hz]; exact hlt⟩, fun x H' y => ?_⟩
  obtain ⟨rfl, k', v, e, rfl⟩ := y
  have e2 : k' = k := by
    obtain ⟨h1, h2⟩ := List.getElem?_eq_some_iff.mp e
    obtain ⟨h3, h4⟩ := List.getElem?_eq_some_iff.mp hk
    rw [List.getElem_zip] at h2
    cases h2
    exact h4
  subst e2
  exact ⟨H1, as1, Le.refl, w, rep_keyD k'⟩
theorem im_keys {σ : L2.St} {H : Hp} {R : It → Hp → Prop} {m : ME} : iM C (miKeys m) σ H R → iKeys (eM C m) σ H R := by
  rintro ⟨H0, as, en, st, s, st', e, w, hm, k⟩
  unfold miKeys at hm
  obtain ⟨⟨d, s1⟩, ha, hm⟩ := Option.bind_eq_some_iff.mp hm
  dsimp only at hm
  split at hm
  · cases hm
    refine ⟨H0, as, en, st, _, _, e, w, ha, fun x H1 as1 H1' l1 w1 r1 => ?_⟩
    obtain ⟨a, ob, vs, ha', rfl, hs, hl, hr⟩ := r1
    have hl2 := hl.trans hr.length
    exact ⟨a, ob, rfl, .inl ⟨_, w1.ex _ _ hs, k _ H1 as1 H1' l1 w1 fun g => itOk_keys (H0 := ⟨H1.h, g⟩) hl2 hs⟩⟩
  · cases hm
end

/-! ### behind the lock -/
mutual
def nof : D → Bool
  | .fdk _ _ _ => false
  | .tup ds => nofs ds
  | .lst ds => nofs ds
  | .fro ds => nofs ds
  | _ => true
def nofs : List D → Bool
  | [] => true
  | d :: ds => nof d && nofs ds
end
def nofO : SO → Bool
  | .dead => true
  | .lst ds => nofs ds
  | .dK kvs => nofs (kvs.map (·.2))
  | .dT kvs => nofs (kvs.map (·.2))
def erase (h : Hp) (a : Addr) : Hp := fun x => if x = a then none else h x
theorem erase_ne {h : Hp} {a x : Addr} (e : x ≠ a) : erase h a x = h x := if_neg e
theorem erase_same {h : Hp} {a : Addr} : erase h a a = none := if_pos rfl
section
variable {C : Cy} {H : Hb} {as : List Addr} {a : Addr} {ob : Obj} {us : List (Key × V)}
theorem rd_er {u : HO} {x : Addr} (hf : H.h a = some (.frz ob (.dK us))) (hu : ∀ kvs, u ≠ .dK kvs) (hu2 : ∀ o v, u ≠ .frz o v) (r : Rd H.h x u) : Rd (erase H.h a) x u := by
  have ne : x ≠ a := fun e => by
    subst e
    rcases r with r | ⟨o, r⟩
    · rw [hf] at r; cases r; exact hu2 _ _ rfl
    · rw [hf] at r; cases r; exact hu _ rfl
  rcases r with r | ⟨o, r⟩
  · exact .inl (by rw [erase_ne ne]; exact r)
  · exact .inr ⟨o, by rw [erase_ne ne]; exact r⟩
mutual
theorem Rep.er (hf : H.h a = some (.frz ob (.dK us))) : ∀ {d : D} {v : V}, nof d = true → Rep C H as d v → Rep C ⟨erase H.h a, H.g⟩ as d v
  | .non, _, _, h => h
  | .bl _, _, _, h => h
  | .int _, _, _, h => h
  | .str _, _, _, h => h
  | .ty _, _, _, h => h
  | .adr _, _, _, h => h
  | .tup ds, _, c, ⟨b, vs, e, hs, hr⟩ => ⟨b, vs, e, hs.imp (rd_er hf (fun _ z => nomatch z) (fun _ _ z => nomatch z)) id, Reps.er hf (by unfold nof at c; exact c) hr⟩
  | .lst ds, _, c, ⟨b, vs, e, hs, hr⟩ => ⟨b, vs, e, by
      have ne : b ≠ a := fun e => by subst e; rw [hf] at hs; cases hs
      show erase H.h a b = _
      rw [erase_ne ne]
      exact hs, Reps.er hf (by unfold nof at c; exact c) hr⟩
  | .fro ds, _, c, ⟨b, vs, e, hs, hr⟩ => ⟨b, vs, e, hs.imp (rd_er hf (fun _ z => nomatch z) (fun _ _ z => nomatch z)) id, Reps.er hf (by unfold nof at c; exact c) hr⟩
  | .loc m, _, _, h => h
  | .fdk _ _ _, _, c, _ => by cases c
  | .set _, _, _, ⟨b, S, n, e, hs, hr⟩ => ⟨b, S, n, e, by
      have ne : b ≠ a := fun e => by subst e; rw [hf] at hs; cases hs
      show erase H.h a b = _
      rw [erase_ne ne]
      exact hs, hr⟩
  | .fn _, _, _, h => h
theorem Reps.er (hf : H.h a = some (.frz ob (.dK us))) : ∀ {ds : List D} {vs : List V}, nofs ds = true → Reps C H as ds vs → Reps C ⟨erase H.h a, H.g⟩ as ds vs
  | [], _, _, h => h
  | d :: ds, _, c, ⟨v, r, e, h1, h2⟩ => by
    unfold nofs at c
    rw [Bool.and_eq_true] at c
    exact ⟨v, r, e, Rep.er hf c.1 h1, Reps.er hf c.2 h2⟩
end
theorem RepKV.er {κ : Type} (hf : H.h a = some (.frz ob (.dK us))) : ∀ {ds : List (κ × D)} {vs : List (κ × V)}, nofs (ds.map (·.2)) = true → RepKV C H as ds vs → RepKV C ⟨erase H.h a, H.g⟩ as ds vs
  | [], _, _, h => h
  | (k, d) :: ds, _, c, ⟨v, r, e, h1, h2⟩ => by
    rw [List.map_cons] at c
    unfold nofs at c
    rw [Bool.and_eq_true] at c
    exact ⟨v, r, e, h1.er hf c.1, RepKV.er hf c.2 h2⟩
theorem RepO.er (hf : H.h a = some (.frz ob (.dK us))) : ∀ {o : SO} {u : HO}, nofO o = true → RepO C H as o u → RepO C ⟨erase H.h a, H.g⟩ as o u
  | .dead, _, _, h => h
  | .lst _, _, c, ⟨vs, e, h⟩ => ⟨vs, e, h.er hf c⟩
  | .dK _, _, c, ⟨vs, e, h⟩ => ⟨vs, e, h.er hf c⟩
  | .dT _, _, c, ⟨vs, e, h⟩ => ⟨vs, e, h.er hf c⟩
end
section
variable {C : Cy} {H0 : Hb} {H : Hp} {as : List Addr} {st : Sto}
/-- into the lock -/
theorem WR.lkIn (w : WR C H0 as st H) {n : Nat} {a : Addr} {us : List (Key × V)} {ob : Obj} (ha : as[n]? = some a) (hn : H0.h a = none) : WR C ⟨upd H0.h a (.frz ob (.dK us)), H0.g⟩ as (st.set n .dead) (upd H a (.frz ob (.dK us))) ∧ Le H0 as ⟨upd H0.h a (.frz ob (.dK us)), H0.g⟩ as := by
  have l : Le H0 as ⟨upd H0.h a (.frz ob (.dK us)), H0.g⟩ as := ⟨fun b x e => (show upd H0.h a _ b = some x by rw [upd_ne (ne_of_none e hn)]; exact e), rfl, List.prefix_rfl⟩
  have hm : a ∈ as := List.mem_of_getElem? ha
  refine ⟨⟨fun b x e => ?_, w.nd, by rw [List.length_set, w.len], fun b hb => ?_, fun m b x hb hx => ?_, fun q hq => ?_⟩, l⟩
  · have e : upd H0.h a _ b = some x := e
    by_cases hb : b = a
    · subst hb
      rw [upd_same] at e ⊢
      exact e
    · rw [upd_ne hb] at e ⊢
      exact w.ex b x e
  · by_cases e : b = a
    · subst e
      exact ⟨_, upd_same⟩
    · rw [upd_ne e]
      exact w.liv b hb
  · by_cases e : m = n
    · subst e
      rw [List.getElem?_set_self (by have := (List.getElem?_eq_some_iff.mp ha).1; rw [w.len] at this; exact this)] at hx
      cases hx
      exact .inl rfl
    · rw [List.getElem?_set_ne (Ne.symm e)] at hx
      have hba : b ≠ a := fun z => by
        subst z
        obtain ⟨h1, e1⟩ := List.getElem?_eq_some_iff.mp ha
        obtain ⟨h2, e2⟩ := List.getElem?_eq_some_iff.mp hb
        exact e ((List.getElem_inj w.nd).mp (e2.trans e1.symm))
      rcases w.own m b x hb hx with z | ⟨z, u, h1, h2⟩
      · exact .inl z
      · exact .inr ⟨(show upd H0.h a _ b = none by rw [upd_ne hba]; exact z), u, by rw [upd_ne hba]; exact h1, h2.mono l⟩
  · obtain ⟨h1, h2, h3⟩ := w.gho q hq
    have hqa : q.1 ≠ a := fun z => h2 (by rw [z]; exact hm)
    exact ⟨(show upd H0.h a _ q.1 = none by rw [upd_ne hqa]; exact h1), h2, by rw [upd_ne hqa]; exact h3⟩
/-- out of it -/
theorem WR.lkOut {H1 : Hb} {as1 : List Addr} {st1 : Sto} {H' : Hp} {n : Nat} {a : Addr} {us : List (Key × V)} {kvs : List (Key × D)} {ob : Obj} (l1 : Le ⟨upd H0.h a (.frz ob (.dK us)), H0.g⟩ as H1 as1) (w1 : WR C H1 as1 st1 H') (ha : as[n]? = some a) (hn : H0.h a = none) (hd : st1[n]? = some .dead) (hc : st1.all nofO = true) (r : RepKV C H0 as kvs us) :
    WR C ⟨erase H1.h a, H1.g⟩ as1 (st1.set n (.dK kvs)) (upd H' a (.dK us)) ∧ Le H0 as ⟨erase H1.h a, H1.g⟩ as1 ∧ H1.h a = some (.frz ob (.dK us)) ∧ H' a = some (.frz ob (.dK us)) := by
  have hf : H1.h a = some (.frz ob (.dK us)) := l1.same _ _ (show upd H0.h a _ a = _ from upd_same)
  have hf' := w1.ex _ _ hf
  have ha1 : as1[n]? = some a := pre_get l1.pre ha
  have l : Le H0 as ⟨erase H1.h a, H1.g⟩ as1 := ⟨fun b x e => (show erase H1.h a b = some x by
    have ne := ne_of_none e hn
    rw [erase_ne ne]
    exact l1.same _ _ (show upd H0.h a _ b = some x by rw [upd_ne ne]; exact e)), l1.gh, l1.pre⟩
  refine ⟨⟨fun b x e => ?_, w1.nd, by rw [List.length_set, w1.len], fun b hb => ?_, fun m b x hb hx => ?_, fun q hq => ?_⟩, l, hf, hf'⟩
  · have e : erase H1.h a b = some x := e
    have ne : b ≠ a := fun z => by subst z; rw [erase_same] at e; cases e
    rw [erase_ne ne] at e
    rw [upd_ne ne]
    exact w1.ex b x e
  · by_cases e : b = a
    · subst e
      exact ⟨_, upd_same⟩
    · rw [upd_ne e]
      exact w1.liv b hb
  · by_cases e : m = n
    · subst e
      rw [ha1] at hb
      cases hb
      rw [List.getElem?_set_self (List.getElem?_eq_some_iff.mp hd).1] at hx
      cases hx
      exact .inr ⟨erase_same, _, upd_same, us, rfl, r.mono l⟩
    · rw [List.getElem?_set_ne (Ne.symm e)] at hx
      have hba : b ≠ a := fun z => by
        subst z
        obtain ⟨h1, e1⟩ := List.getElem?_eq_some_iff.mp ha1
        obtain ⟨h2, e2⟩ := List.getElem?_eq_some_iff.mp hb
        exact e ((List.getElem_inj w1.nd).mp (e2.trans e1.symm))
      rcases w1.own m b x hb hx with z | ⟨z, u, h1, h2⟩
      · exact .inl z
      · exact .inr ⟨(show erase H1.h a b = none by rw [erase_ne hba]; exact z), u, by rw [upd_ne hba]; exact h1, h2.er hf (List.all_eq_true.mp hc x (List.mem_of_getElem? hx))⟩
  · obtain ⟨h1, h2, h3⟩ := w1.gho q hq
    have hqa : q.1 ≠ a := fun z => h2 (by rw [z]; exact List.mem_of_getElem? ha1)
    exact ⟨(show erase H1.h a q.1 = none by rw [erase_ne hqa]; exact h1), h2, by rw [upd_ne hqa]; exact h3⟩
end
open Classical in
/-- the dict of slot i, while an expression goes through it -/
noncomputable def mLkE (i : Nat) (m : ME) : ME := fun en st => match en[i]? with
  | some (some (.loc n)) => match st[n]? with
    | some (.dK kvs) => (m (en.set i (some (.fdk n (kvs.map (·.1)) (kvs.map (·.2))))) (st.set n .dead)).bind fun p => if nof p.1 = true ∧ p.2.all nofO = true ∧ p.2[n]? = some .dead then some (p.1, p.2.set n (.dK kvs)) else none
    | _ => none
  | _ => none
theorem RepKV.vals {C : Cy} {H : Hb} {as : List Addr} : ∀ {kvs : List (Key × D)} {vs : List (Key × V)}, RepKV C H as kvs vs → Reps C H as (kvs.map (·.2)) (vs.map (·.2)) ∧ kvs.map (·.1) = vs.map (·.1)
  | [], _, h => by
    have h : _ = [] := h
    subst h
    exact ⟨rfl, rfl⟩
  | (j, d) :: kvs, _, h => by
    obtain ⟨v, r, rfl, h1, h2⟩ := h
    obtain ⟨h3, h4⟩ := RepKV.vals h2
    exact ⟨⟨v, _, rfl, h1, h3⟩, by rw [List.map_cons, List.map_cons, h4]⟩
theorem zip_map {α β : Type} : ∀ l : List (α × β), (l.map (·.1)).zip (l.map (·.2)) = l
  | [] => rfl
  | (a, b) :: l => by
    rw [List.map_cons, List.map_cons, List.zip_cons_cons, zip_map l]
section
variable {C : Cy} {σ : L2.St} {H : Hp} {Q : VK}
theorem em_lk {i : Nat} {m : ME} : eM C (mLkE i m) σ H Q → tLkE (eM C m) σ H Q := by
  rintro ⟨H0, as, en, st, d, st', e, w, hm, k⟩
  unfold mLkE at hm
  split at hm
  · rename_i n hi
    split at hm
    · rename_i kvs hs
      obtain ⟨⟨d1, s1⟩, h1, hm⟩ := Option.bind_eq_some_iff.mp hm
      dsimp only at hm
      split at hm
      · rename_i hc
        cases hm
        obtain ⟨a, vs, ha, hn, hH, hr⟩ := w.dk hs
        obtain ⟨hv, hk⟩ := hr.vals
        refine ⟨a, _, hH, trivial, fun od => ?_⟩
        obtain ⟨w1, l1⟩ := w.lkIn (us := vs) (ob := od) ha hn
        obtain ⟨v0, hv0, a', ha', e0⟩ := e.at_ i _ hi
        rw [ha] at ha'
        cases ha'
        subst e0
        have en1 : EnR C ⟨upd H0.h a (.frz od (.dK vs)), H0.g⟩ as (en.set i (some (.fdk n (kvs.map (·.1)) (kvs.map (·.2))))) σ := by
          refine ⟨by rw [List.length_set, e.len], fun j dj hj => ?_⟩
          by_cases ej : j = i
          · subst ej
            rw [List.getElem?_set_self (by have := (List.getElem?_eq_some_iff.mp hi).1; exact this)] at hj
            cases hj
            exact ⟨_, hv0, a, od, vs.map (·.2), ha, rfl, (show upd H0.h a _ a = _ by rw [upd_same, hk, zip_map]), by simp, hv.mono l1⟩
          · rw [List.getElem?_set_ne (Ne.symm ej)] at hj
            obtain ⟨v, hv, rv⟩ := e.at_ j _ hj
            exact ⟨v, hv, rv.mono l1⟩
        refine ⟨_, as, _, _, _, _, en1, w1, h1, fun v H2 as2 H2' l2 w2 r2 => ?_⟩
        obtain ⟨w3, l3, hf, hf'⟩ := WR.lkOut l2 w2 ha hn hc.2.2 hc.2.1 hr
        exact ⟨od, _, hf', k v _ as2 _ l3 w3 (r2.er hf hc.1)⟩
      · cases hm
    · cases hm
  · cases hm
end
open Classical in
/-- .. while a statement goes through it -/
noncomputable def mLkS (i : Nat) (m : MS) : MS := fun en st => match en[i]? with
  | some (some (.loc n)) => match st[n]? with
    | some (.dK kvs) => (m (en.set i (some (.fdk n (kvs.map (·.1)) (kvs.map (·.2))))) (st.set n .dead)).bind fun p => if p.2.all nofO = true ∧ p.2[n]? = some .dead then match p.1 with
      | .nx e => if (∃ ks ds, e[i]? = some (some (.fdk n ks ds))) ∧ ∀ j d, j ≠ i → e[j]? = some (some d) → nof d = true then some (.nx (e.set i (some (.loc n))), p.2.set n (.dK kvs)) else none
      | .rt d => if nof d = true then some (.rt d, p.2.set n (.dK kvs)) else none
      | _ => none
      else none
    | _ => none
  | _ => none
section
variable {C : Cy} {σ : L2.St} {H : Hp}
theorem sm_lk {i : Nat} {m : MS} {N : Ends} : sM C (mLkS i m) N σ H → tLk (sM C m) N σ H := by
  rintro ⟨H0, as, en, st, o, st', e, w, hm, k⟩
  unfold mLkS at hm
  split at hm
  · rename_i n hi
    split at hm
    · rename_i kvs hs
      obtain ⟨⟨o1, s1⟩, h1, hm⟩ := Option.bind_eq_some_iff.mp hm
      dsimp only at hm
      split at hm
      · rename_i hc
        obtain ⟨a, vs, ha, hn, hH, hr⟩ := w.dk hs
        obtain ⟨hv, hk⟩ := hr.vals
        refine ⟨a, _, hH, trivial, fun od => ?_⟩
        obtain ⟨w1, l1⟩ := w.lkIn (us := vs) (ob := od) ha hn
        obtain ⟨v0, hv0, a', ha', e0⟩ := e.at_ i _ hi
        rw [ha] at ha'
        cases ha'
        subst e0
        have en1 : EnR C ⟨upd H0.h a (.frz od (.dK vs)), H0.g⟩ as (en.set i (some (.fdk n (kvs.map (·.1)) (kvs.map (·.2))))) σ := by
          refine ⟨by rw [List.length_set, e.len], fun j dj hj => ?_⟩
          by_cases ej : j = i
          · subst ej
            rw [List.getElem?_set_self (by have := (List.getElem?_eq_some_iff.mp hi).1; exact this)] at hj
            cases hj
            exact ⟨_, hv0, a, od, vs.map (·.2), ha, rfl, (show upd H0.h a _ a = _ by rw [upd_same, hk, zip_map]), by simp, hv.mono l1⟩
          · rw [List.getElem?_set_ne (Ne.symm ej)] at hj
            obtain ⟨v, hv, rv⟩ := e.at_ j _ hj
            exact ⟨v, hv, rv.mono l1⟩
        refine ⟨_, as, _, _, o1, _, en1, w1, h1, ?_⟩
        cases o1 with
        | nx e1 =>
          dsimp only at hm
          split at hm
          · rename_i hz
            cases hm
            obtain ⟨⟨ks, ds, hz1⟩, hz2⟩ := hz
            intro σ1 H2 as2 H2' l2 w2 e2
            obtain ⟨w3, l3, hf, hf'⟩ := WR.lkOut l2 w2 ha hn hc.2 hc.1 hr
            refine ⟨od, _, hf', k σ1 _ as2 _ l3 w3 ⟨by rw [List.length_set, e2.len], fun j dj hj => ?_⟩⟩
            by_cases ej : j = i
            · subst ej
              rw [List.getElem?_set_self (by have := (List.getElem?_eq_some_iff.mp hz1).1; exact this)] at hj
              cases hj
              obtain ⟨v, hv, b, _, _, hb, eb, _⟩ := e2.at_ j _ hz1
              exact ⟨v, hv, b, hb, eb⟩
            · rw [List.getElem?_set_ne (Ne.symm ej)] at hj
              obtain ⟨v, hv, rv⟩ := e2.at_ j _ hj
              exact ⟨v, hv, rv.er hf (hz2 j _ ej hj)⟩
          · cases hm
        | rt d1 =>
          dsimp only at hm
          split at hm
          · rename_i hz
            cases hm
            intro v H2 as2 H2' l2 w2 r2
            obtain ⟨w3, l3, hf, hf'⟩ := WR.lkOut l2 w2 ha hn hc.2 hc.1 hr
            exact ⟨od, _, hf', k v _ as2 _ l3 w3 (r2.er hf hz)⟩
          · cases hm
        | bk _ => cases hm
        | ct _ => cases hm
      · cases hm
    · cases hm
  · cases hm
end
section
variable {X : Cx} {tg e : Expr} {m : ME}
theorem i_keys (ha : PE X e (eM (cyOf X) m)) : PI X tg e (iM (cyOf X) (miKeys m)) := PI.imp (pi_keys ha) fun _ _ _ => im_keys
theorem x_lk (i : Nat) (h : PE X e (eM (cyOf X) m)) : PE X e (eM (cyOf X) (mLkE i m)) := PE.imp (pe_lk h) fun _ _ _ => em_lk
theorem z_lk {st : Stmt} {ms : MS} (i : Nat) (h : PS X st (sM (cyOf X) ms)) : PS X st (sM (cyOf X) (mLkS i ms)) := PS.imp (ps_lk h) fun _ _ _ => sm_lk
end
end My


namespace My
open PySem PySem.Spec PyProof.Rows L2

/-! ### evaluating -/
theorem settle_self (d : D) {st st' : Sto} (h : st'.length ≤ st.length) : settle st d st' = (d, st') := by
  unfold settle
  rw [if_pos h]
theorem settle_same (d : D) (st : Sto) : settle st d st = (d, st) := settle_self d (Nat.le_refl _)
theorem mV_at {i : Nat} {en : En} {st : Sto} {d : D} (h : en[i]? = some (some d)) : mV i en st = some (d, st) := by
  unfold mV
  rw [h]
theorem mV_eq (i : Nat) (en : En) (st : Sto) : mV i en st = (en[i]?.join).map fun d => (d, st) := by
  unfold mV
  split
  · rename_i d h
    rw [h]
    rfl
  · rename_i h
    cases e : en[i]? with
    | none => rfl
    | some o =>
      cases o with
      | none => rfl
      | some d => exact absurd e (h d)
theorem mDef_rt {N n : Nat} {b : MS} {ds : List D} {st st' : Sto} {d : D} (hl : ds.length = n) (h : b (ds.map some ++ List.replicate (N - ds.length) none) st = some (.rt d, st')) (hs : st'.length ≤ st.length := by first | exact Nat.le_refl _ | simp) : mDef N n b ds st = some (d, st') := by
  unfold mDef
  rw [if_pos hl, h]
  show some (settle st d st') = _
  rw [settle_self d hs]
theorem mSeq_nx {a b : MS} {en en' : En} {st st' : Sto} (h : a en st = some (.nx en', st')) : mSeq a b en st = b en' st' := by
  unfold mSeq
  rw [h]
  rfl
theorem mSeq_rt {a b : MS} {en : En} {st st' : Sto} {d : D} (h : a en st = some (.rt d, st')) : mSeq a b en st = some (.rt d, st') := by
  unfold mSeq
  rw [h]
  rfl
theorem mAsg_nx {m : ME} {g : MG} {en en' : En} {st st1 st2 : Sto} {d : D} (h : m en st = some (d, st1)) (hg : g d en st1 = some (en', st2)) : mAsg m g en st = some (.nx en', st2) := by
  unfold mAsg
  rw [h]
  show (g d en st1).bind _ = _
  rw [hg]
  rfl
theorem mRet_rt {m : ME} {en : En} {st st1 : Sto} {d : D} (h : m en st = some (d, st1)) : mRet m en st = some (.rt d, st1) := by
  unfold mRet
  rw [h]
  rfl
theorem mIfS_t {c : MB} {a b : MS} {en : En} {st st1 : Sto} (h : c en st = some (true, st1)) : mIfS c a b en st = a en st1 := by
  unfold mIfS
  rw [h]
  rfl
theorem mIfS_f {c : MB} {a b : MS} {en : En} {st st1 : Sto} (h : c en st = some (false, st1)) : mIfS c a b en st = b en st1 := by
  unfold mIfS
  rw [h]
  rfl
theorem ite_bind {α β : Type} {c : Prop} [Decidable c] (a b : Option α) (f : α → Option β) : (if c then a else b).bind f = if c then a.bind f else b.bind f := by
  split <;> rfl
theorem bite_bind {α β : Type} (c : Bool) (a b : Option α) (f : α → Option β) : (bif c then a else b).bind f = bif c then a.bind f else b.bind f := by
  cases c <;> rfl

/-! ### lists of ints -/
def rngI (lo : Int) (n : Nat) : List Int := (List.range n).map fun (i : Nat) => lo + (i : Int)
theorem rngD_eq (lo : Int) (n : Nat) : rngD lo n = (rngI lo n).map D.int := by
  unfold rngD rngI
  rw [List.map_map]
  rfl
theorem mem_rngI {lo x : Int} {n : Nat} : x ∈ rngI lo n ↔ lo ≤ x ∧ x < lo + n := by
  unfold rngI
  simp only [List.mem_map, List.mem_range]
  constructor
  · rintro ⟨i, hi, rfl⟩
    omega
  · intro h
    exact ⟨(x - lo).toNat, by omega, by omega⟩
theorem length_rngI (lo : Int) (n : Nat) : (rngI lo n).length = n := by
  unfold rngI
  simp
theorem look_tup (ds : List D) (st : Sto) : look (.tup ds) st = some ds := rfl
theorem look_lst (ds : List D) (st : Sto) : look (.lst ds) st = some ds := rfl
theorem look_fro (ds : List D) (st : Sto) : look (.fro ds) st = some ds := rfl
theorem lookL_lst (ds : List D) (st : Sto) : lookL (.lst ds) st = some ds := rfl
theorem flat_ints (ns : List Int) : (ns.map D.int).all flatD = true := by
  rw [List.all_map]
  exact List.all_eq_true.mpr fun _ _ => rfl
theorem inD_ints (x : Int) (ns : List Int) : inD (.int x) (ns.map D.int) = decide (x ∈ ns) := by
  unfold inD
  rw [List.any_map]
  rw [Bool.eq_iff_iff]
  simp only [List.any_eq_true, Function.comp, eqF, decide_eq_true_eq, beq_iff_eq]
  constructor
  · rintro ⟨y, hy, rfl⟩
    exact hy
  · exact fun h => ⟨x, h, rfl⟩
theorem fIn_ints (neg : Bool) (x : Int) (d : D) (ns : List Int) (st : Sto) (h : look d st = some (ns.map D.int)) : fIn neg (.int x) d st = some (.bl (if neg then !decide (x ∈ ns) else decide (x ∈ ns)), st) := by
  unfold fIn
  rw [h]
  show (if flatD (.int x) = true ∧ (ns.map D.int).all flatD = true then _ else _) = _
  rw [if_pos ⟨rfl, flat_ints ns⟩, inD_ints]
theorem fIn_tup (neg : Bool) (x : Int) (ns : List Int) (st : Sto) : fIn neg (.int x) (.tup (ns.map D.int)) st = some (.bl (if neg then !decide (x ∈ ns) else decide (x ∈ ns)), st) := fIn_ints neg x _ ns st rfl
theorem fIn_lst (neg : Bool) (x : Int) (ns : List Int) (st : Sto) : fIn neg (.int x) (.lst (ns.map D.int)) st = some (.bl (if neg then !decide (x ∈ ns) else decide (x ∈ ns)), st) := fIn_ints neg x _ ns st rfl
theorem atI_map {α β : Type} (f : α → β) (xs : List α) (i : Int) : atI (xs.map f) i = (atI xs i).map f := by
  unfold atI
  rw [List.length_map]
  cases ixN xs.length i with
  | none => rfl
  | some j => simp
theorem atI_nat {α : Type} {xs : List α} {i : Int} (h0 : 0 ≤ i) (h : i < xs.length) : atI xs i = some (xs[i.toNat]'(by omega)) := by
  unfold atI ixN
  rw [if_pos h0, if_pos h]
  exact List.getElem?_eq_getElem (by omega)
theorem atI_get {α : Type} {xs : List α} {i : Int} {j : Nat} {x : α} (h : xs[j]? = some x) (e : i = (j : Int)) : atI xs i = some x := by
  obtain ⟨h1, h2⟩ := List.getElem?_eq_some_iff.mp h
  subst e
  rw [atI_nat (by omega) (by omega)]
  simp [h2]
theorem atI_mem {α : Type} {xs : List α} {i : Int} (h0 : 0 ≤ i) (h : i < xs.length) : ∃ x, atI xs i = some x ∧ x ∈ xs := ⟨_, atI_nat h0 h, List.getElem_mem _⟩
theorem atI_neg1 {α : Type} {xs : List α} (h : xs ≠ []) : atI xs (-1) = some (xs.getLast h) := by
  unfold atI ixN
  have hl : 0 < xs.length := List.length_pos_iff.mpr h
  rw [if_neg (by decide), if_pos (by omega)]
  show xs[(-1 + (xs.length : Int)).toNat]? = _
  rw [show (-1 + (xs.length : Int)).toNat = xs.length - 1 by omega, List.getLast_eq_getElem, List.getElem?_eq_getElem]
theorem cutD_take (ds : List D) (k : Int) (h : 0 ≤ k) : cutD ds none (some k) = ds.take k.toNat := by
  unfold cutD HT.sIx
  dsimp only
  rw [if_neg (by omega), List.drop_zero, Nat.sub_zero]
  rw [List.take_eq_take_iff]
  omega

/-! ### loops -/
def outOk (N B : En → Sto → Prop) (R : D → Sto → Prop) (o : Out) (st : Sto) : Prop := match o with
  | .nx e => N e st
  | .ct e => N e st
  | .bk e => B e st
  | .rt d => R d st
theorem forL_inv {s : Src} {T : Tg} {b : MS} (I : Nat → En → Sto → Prop) (B : En → Sto → Prop) (R : D → Sto → Prop) (hok : ∀ i en st, I i en st → s.ok st)
    (step : ∀ (i : Nat) d en st, s.ds[i]? = some d → I i en st → ∃ en' o st', setTg T d en = some en' ∧ b en' st = some (o, st') ∧ outOk (I (i + 1)) B R o st') :
    ∀ (ds : List D) (i : Nat) (en : En) (st : Sto), s.ds.drop i = ds → i ≤ s.ds.length → I i en st → ∃ o st', forL s T b ds en st = some (o, st') ∧ match o with
      | .nx e => I s.ds.length e st' ∨ B e st'
      | .rt d => R d st'
      | _ => False
  | [], i, en, st, hd, hi, hI => by
    refine ⟨.nx en, st, ?_, ?_⟩
    · unfold forL
      rw [if_pos (hok i en st hI)]
    · have hl : s.ds.length ≤ i := List.drop_eq_nil_iff.mp hd
      have e : i = s.ds.length := by omega
      rw [← e]
      exact .inl hI
  | d :: ds, i, en, st, hd, hi, hI => by
    have hg : s.ds[i]? = some d := by
      have := congrArg List.head? hd
      rw [List.head?_drop] at this
      exact this
    have hlt := (List.getElem?_eq_some_iff.mp hg).1
    obtain ⟨en', o, st', h1, h2, h3⟩ := step i d en st hg hI
    have hd' : s.ds.drop (i + 1) = ds := by
      rw [← List.tail_drop, hd]
      rfl
    unfold forL
    rw [if_pos (hok i en st hI), h1]
    show ∃ o st', ((b en' st).bind _) = some (o, st') ∧ _
    rw [h2]
    cases o with
    | nx e => exact forL_inv I B R hok step ds (i + 1) e st' hd' hlt h3
    | ct e => exact forL_inv I B R hok step ds (i + 1) e st' hd' hlt h3
    | bk e => exact ⟨.nx e, st', rfl, .inr h3⟩
    | rt d => exact ⟨.rt d, st', rfl, h3⟩
/-- a for, by what holds ahead of turn i (I), behind a break (B), at a return (R) -/
theorem for_inv {mi : MI} {T : Tg} {b : MS} {en : En} {st st1 : Sto} {s : Src} (hm : mi en st = some (s, st1)) (I : Nat → En → Sto → Prop) (B : En → Sto → Prop) (R : D → Sto → Prop) (hok : ∀ i en st, I i en st → s.ok st) (h0 : I 0 en st1)
    (step : ∀ (i : Nat) d en st, s.ds[i]? = some d → I i en st → ∃ en' o st', setTg T d en = some en' ∧ b en' st = some (o, st') ∧ outOk (I (i + 1)) B R o st') :
    ∃ o st', mFor mi T b en st = some (o, st') ∧ match o with
      | .nx e => I s.ds.length e st' ∨ B e st'
      | .rt d => R d st'
      | _ => False := by
  unfold mFor
  rw [hm]
  exact forL_inv I B R hok step s.ds 0 en st1 rfl (Nat.zero_le _) h0
/-- a while, by what holds at each test and a number that falls -/
theorem while_inv {c : MB} {b : MS} (I : En → Sto → Prop) (μ : En → Sto → Nat) (N : En → Sto → Prop) (R : D → Sto → Prop)
    (step : ∀ en st, I en st → ∃ t st1, c en st = some (t, st1) ∧ (t = false → N en st1) ∧ (t = true → ∃ o st2, b en st1 = some (o, st2) ∧ outOk (fun e s => I e s ∧ μ e s < μ en st) N R o st2)) :
    ∀ (n : Nat) (en : En) (st : Sto), μ en st < n → I en st → ∃ o st', mWhN c b n en st = some (o, st') ∧ match o with
      | .nx e => N e st'
      | .rt d => R d st'
      | _ => False
  | 0, en, st, h, _ => by omega
  | n + 1, en, st, h, hI => by
    obtain ⟨t, st1, h1, h2, h3⟩ := step en st hI
    unfold mWhN
    rw [h1]
    cases t with
    | false => exact ⟨.nx en, st1, rfl, h2 rfl⟩
    | true =>
      obtain ⟨o, st2, h4, h5⟩ := h3 rfl
      show ∃ o st', ((b en st1).bind _) = some (o, st') ∧ _
      rw [h4]
      cases o with
      | nx e => exact while_inv I μ N R step n e st2 (by have := h5.2; omega) h5.1
      | ct e => exact while_inv I μ N R step n e st2 (by have := h5.2; omega) h5.1
      | bk e => exact ⟨.nx e, st2, rfl, h5⟩
      | rt d => exact ⟨.rt d, st2, rfl, h5⟩
theorem wh_inv {c : MB} {b : MS} {en : En} {st : Sto} (I : En → Sto → Prop) (μ : En → Sto → Nat) (N : En → Sto → Prop) (R : D → Sto → Prop) (h0 : I en st)
    (step : ∀ en st, I en st → ∃ t st1, c en st = some (t, st1) ∧ (t = false → N en st1) ∧ (t = true → ∃ o st2, b en st1 = some (o, st2) ∧ outOk (fun e s => I e s ∧ μ e s < μ en st) N R o st2)) :
    ∃ o st', mWh c b en st = some (o, st') ∧ match o with
      | .nx e => N e st'
      | .rt d => R d st'
      | _ => False := by
  obtain ⟨o, st', h, k⟩ := while_inv I μ N R step (μ en st + 1) en st (Nat.lt_succ_self _) h0
  exact ⟨o, st', mWh_of h, k⟩
/-- a comprehension that leaves the store as it is -/
theorem lcL_pure {s : Src} {T : Tg} {tt : MB} {te : ME} {en : En} {st : Sto} (p : D → Bool) (f : D → D) (hok : s.ok st) : ∀ (ds acc : List D), acc.length + ds.length < sizeLine →
    (∀ d ∈ ds, ∃ en', setTg T d en = some en' ∧ tt en' st = some (p d, st) ∧ (p d = true → te en' st = some (f d, st))) → lcL s T tt te en ds acc st = some (acc ++ (ds.filter p).map f, st)
  | [], acc, _, _ => by
    unfold lcL
    rw [if_pos hok]
    simp
  | d :: ds, acc, hl, h => by
    obtain ⟨en', h1, h2, h3⟩ := h d (by simp)
    unfold lcL
    rw [if_pos hok, h1]
    show ((tt en' st).bind _) = _
    rw [h2]
    rw [List.length_cons] at hl
    cases hp : p d with
    | true =>
      show ((te en' st).bind _) = _
      rw [h3 hp]
      show (if acc.length < sizeLine then lcL s T tt te en ds (acc ++ [f d]) st else none) = _
      rw [if_pos (by omega), lcL_pure p f hok ds _ (by rw [List.length_append]; simp only [List.length_cons, List.length_nil]; omega) fun d' hd' => h d' (List.mem_cons_of_mem _ hd'), List.filter_cons_of_pos hp, List.map_cons, List.append_assoc]
      rfl
    | false =>
      show lcL s T tt te en ds acc st = _
      rw [lcL_pure p f hok ds acc (by omega) fun d' hd' => h d' (List.mem_cons_of_mem _ hd'), List.filter_cons_of_neg (by rw [hp]; decide)]
theorem lc_pure {mu : Bool} {mi : MI} {T : Tg} {tt : MB} {te : ME} {vs : List Nat} {en : En} {st st1 : Sto} {s : Src} (hm : mi en st = some (s, st1)) (p : D → Bool) (f : D → D) (hok : s.ok st1) (hl : s.ds.length < sizeLine)
    (h : ∀ d ∈ s.ds, ∃ en', setTg T d (wipeE en vs) = some en' ∧ tt en' st1 = some (p d, st1) ∧ (p d = true → te en' st1 = some (f d, st1))) : mLc mu mi T tt te vs en st = some (alloc mu ((s.ds.filter p).map f) st1) := by
  unfold mLc
  rw [hm]
  show ((lcL s T tt te (wipeE en vs) s.ds [] st1).map _) = _
  rw [lcL_pure p f hok s.ds [] (by simpa using hl) h]
  rfl
theorem map_filter_ints (ns : List Int) (p : Int → Bool) (f : Int → D) (P : D → Bool) (F : D → D) (hp : ∀ n ∈ ns, P (.int n) = p n) (hf : ∀ n ∈ ns, p n = true → F (.int n) = f n) : ((ns.map D.int).filter P).map F = (ns.filter p).map f := by
  induction ns with
  | nil => rfl
  | cons n ns ih =>
    have ih := ih (fun m hm => hp m (List.mem_cons_of_mem _ hm)) fun m hm => hf m (List.mem_cons_of_mem _ hm)
    rw [List.map_cons]
    cases h : p n with
    | true => rw [List.filter_cons_of_pos (by rw [hp n (by simp), h]), List.filter_cons_of_pos h, List.map_cons, List.map_cons, ih, hf n (by simp) h]
    | false => rw [List.filter_cons_of_neg (by rw [hp n (by simp), h]; decide), List.filter_cons_of_neg (by rw [h]; decide), ih]
/-- over ints -/
theorem lc_ints {mu : Bool} {mi : MI} {T : Tg} {tt : MB} {te : ME} {vs : List Nat} {en : En} {st st1 : Sto} {ns : List Int} (hm : mi en st = some (⟨ns.map D.int, none⟩, st1)) (p : Int → Bool) (f : Int → D) (hl : ns.length < sizeLine)
    (h : ∀ n ∈ ns, ∃ en', setTg T (.int n) (wipeE en vs) = some en' ∧ tt en' st1 = some (p n, st1) ∧ (p n = true → te en' st1 = some (f n, st1))) : mLc mu mi T tt te vs en st = some (alloc mu ((ns.filter p).map f) st1) := by
  let P : D → Bool := fun d => match d with | .int n => p n | _ => false
  let F : D → D := fun d => match d with | .int n => f n | _ => .non
  rw [lc_pure hm P F trivial (by simpa using hl) fun d hd => by
    obtain ⟨n, hn, rfl⟩ := List.mem_map.mp hd
    exact h n hn]
  rw [map_filter_ints ns p f P F (fun _ _ => rfl) fun _ _ _ => rfl]
/-- a comprehension, by what holds of the store and of what is made so far -/
theorem lcL_inv {s : Src} {T : Tg} {tt : MB} {te : ME} {en : En} (I : Nat → List D → Sto → Prop) (hok : ∀ i acc st, I i acc st → s.ok st) (hz : ∀ i acc st, I i acc st → acc.length < sizeLine)
    (step : ∀ (i : Nat) d acc st, s.ds[i]? = some d → I i acc st → ∃ en' t st1, setTg T d en = some en' ∧ tt en' st = some (t, st1) ∧ (t = false → I (i + 1) acc st1) ∧ (t = true → ∃ y st2, te en' st1 = some (y, st2) ∧ I (i + 1) (acc ++ [y]) st2)) :
    ∀ (ds : List D) (i : Nat) (acc : List D) (st : Sto), s.ds.drop i = ds → i ≤ s.ds.length → I i acc st → ∃ ys st', lcL s T tt te en ds acc st = some (ys, st') ∧ I s.ds.length ys st'
  | [], i, acc, st, hd, hi, hI => by
    have hl : s.ds.length ≤ i := List.drop_eq_nil_iff.mp hd
    have e : i = s.ds.length := by omega
    refine ⟨acc, st, ?_, by rw [← e]; exact hI⟩
    unfold lcL
    rw [if_pos (hok i acc st hI)]
  | d :: ds, i, acc, st, hd, hi, hI => by
    have hg : s.ds[i]? = some d := by
      have := congrArg List.head? hd
      rw [List.head?_drop] at this
      exact this
    have hlt := (List.getElem?_eq_some_iff.mp hg).1
    have hd' : s.ds.drop (i + 1) = ds := by
      rw [← List.tail_drop, hd]
      rfl
    obtain ⟨en', t, st1, h1, h2, h3, h4⟩ := step i d acc st hg hI
    unfold lcL
    rw [if_pos (hok i acc st hI), h1]
    show ∃ ys st', ((tt en' st).bind _) = some (ys, st') ∧ _
    rw [h2]
    cases t with
    | false => exact lcL_inv I hok hz step ds (i + 1) acc st1 hd' hlt (h3 rfl)
    | true =>
      obtain ⟨y, st2, h5, h6⟩ := h4 rfl
      show ∃ ys st', ((te en' st1).bind _) = some (ys, st') ∧ _
      rw [h5]
      show ∃ ys st', (if acc.length < sizeLine then lcL s T tt te en ds (acc ++ [y]) st2 else none) = some (ys, st') ∧ _
      rw [if_pos (hz i acc st hI)]
      exact lcL_inv I hok hz step ds (i + 1) (acc ++ [y]) st2 hd' hlt h6
theorem lc_inv {mu : Bool} {mi : MI} {T : Tg} {tt : MB} {te : ME} {vs : List Nat} {en : En} {st st1 : Sto} {s : Src} (hm : mi en st = some (s, st1)) (I : Nat → List D → Sto → Prop) (hok : ∀ i acc st, I i acc st → s.ok st) (hz : ∀ i acc st, I i acc st → acc.length < sizeLine) (h0 : I 0 [] st1)
    (step : ∀ (i : Nat) d acc st, s.ds[i]? = some d → I i acc st → ∃ en' t st1, setTg T d (wipeE en vs) = some en' ∧ tt en' st = some (t, st1) ∧ (t = false → I (i + 1) acc st1) ∧ (t = true → ∃ y st2, te en' st1 = some (y, st2) ∧ I (i + 1) (acc ++ [y]) st2)) :
    ∃ ys st', mLc mu mi T tt te vs en st = some (alloc mu ys st') ∧ I s.ds.length ys st' := by
  obtain ⟨ys, st', h, k⟩ := lcL_inv I hok hz step s.ds 0 [] st1 rfl (Nat.zero_le _) h0
  refine ⟨ys, st', ?_, k⟩
  unfold mLc
  rw [hm]
  show ((lcL s T tt te (wipeE en vs) s.ds [] st1).map _) = _
  rw [h]
  rfl
theorem forL_nx {s : Src} {T : Tg} {b : MS} {d : D} {r : List D} {en en' en2 : En} {st st2 : Sto} (hok : s.ok st) (h1 : setTg T d en = some en') (h2 : b en' st = some (.nx en2, st2)) : forL s T b (d :: r) en st = forL s T b r en2 st2 := by
  conv => lhs; unfold forL
  rw [if_pos hok, h1]
  show ((b en' st).bind _) = _
  rw [h2]
  rfl
theorem forL_rt {s : Src} {T : Tg} {b : MS} {d x : D} {r : List D} {en en' : En} {st st2 : Sto} (hok : s.ok st) (h1 : setTg T d en = some en') (h2 : b en' st = some (.rt x, st2)) : forL s T b (d :: r) en st = some (.rt x, st2) := by
  conv => lhs; unfold forL
  rw [if_pos hok, h1]
  show ((b en' st).bind _) = _
  rw [h2]
  rfl
theorem forL_nil {s : Src} {T : Tg} {b : MS} {en : En} {st : Sto} (hok : s.ok st) : forL s T b [] en st = some (.nx en, st) := by
  unfold forL
  rw [if_pos hok]
theorem ok_none {ds : List D} {st : Sto} : (⟨ds, none⟩ : Src).ok st := trivial
/-- no number is met, or the first one that is -/
theorem for_find {mi : MI} {T : Tg} {b : MS} {en : En} {st st1 : Sto} {ns : List Int} (hm : mi en st = some (⟨ns.map D.int, none⟩, st1)) (p : Int → Bool) (g : Int → D) (E : En → Prop) (h0 : E en)
    (step : ∀ n ∈ ns, ∀ en, E en → ∃ en', setTg T (.int n) en = some en' ∧ (p n = true → b en' st1 = some (.rt (g n), st1)) ∧ (p n = false → ∃ en2, b en' st1 = some (.nx en2, st1) ∧ E en2)) :
    (∃ en2, ns.find? p = none ∧ mFor mi T b en st = some (.nx en2, st1) ∧ E en2) ∨ ∃ n, ns.find? p = some n ∧ mFor mi T b en st = some (.rt (g n), st1) := by
  unfold mFor
  rw [hm]
  show (∃ en2, ns.find? p = none ∧ forL ⟨ns.map D.int, none⟩ T b (ns.map D.int) en st1 = some (.nx en2, st1) ∧ E en2) ∨ ∃ n, ns.find? p = some n ∧ forL ⟨ns.map D.int, none⟩ T b (ns.map D.int) en st1 = some (.rt (g n), st1)
  have gen : ∀ (ms : List Int), (∀ n ∈ ms, n ∈ ns) → ∀ en, E en → (∃ en2, ms.find? p = none ∧ forL ⟨ns.map D.int, none⟩ T b (ms.map D.int) en st1 = some (.nx en2, st1) ∧ E en2) ∨ ∃ n, ms.find? p = some n ∧ forL ⟨ns.map D.int, none⟩ T b (ms.map D.int) en st1 = some (.rt (g n), st1) := by
    intro ms
    induction ms with
    | nil =>
      intro _ en hE
      refine .inl ⟨en, rfl, ?_, hE⟩
      rw [List.map_nil]
      unfold forL
      rw [if_pos (show (⟨ns.map D.int, none⟩ : Src).ok st1 from trivial)]
    | cons n ms ih =>
      intro hs en hE
      obtain ⟨en', h1, h2, h3⟩ := step n (hs n (by simp)) en hE
      rw [List.map_cons]
      cases hp : p n with
      | true => exact .inr ⟨n, List.find?_cons_of_pos hp, forL_rt ok_none h1 (h2 hp)⟩
      | false =>
        obtain ⟨en2, h4, h5⟩ := h3 hp
        rw [forL_nx ok_none h1 h4, List.find?_cons_of_neg (by rw [hp]; decide)]
        exact ih (fun m hm => hs m (List.mem_cons_of_mem _ hm)) en2 h5
  exact gen ns (fun _ h => h) en h0
end My
namespace My
open PySem PySem.Spec PyProof.Rows L2
theorem atI_0 {α : Type} (x : α) (l : List α) : atI (x :: l) 0 = some x := atI_nat (by omega) (by simp)
theorem atI_1 {α : Type} (x y : α) (l : List α) : atI (x :: y :: l) 1 = some y := atI_nat (by omega) (by simp; omega)
theorem atI_2 {α : Type} (x y z : α) (l : List α) : atI (x :: y :: z :: l) 2 = some z := atI_nat (by omega) (by simp; omega)
theorem atI_3 {α : Type} (x y z u : α) (l : List α) : atI (x :: y :: z :: u :: l) 3 = some u := atI_nat (by omega) (by simp; omega)
theorem fLen_tup (ds : List D) (st : Sto) : fLen [.tup ds] st = some (.int ds.length, st) := rfl
theorem fLen_lst (ds : List D) (st : Sto) : fLen [.lst ds] st = some (.int ds.length, st) := rfl
theorem fTuple_tup (ds : List D) (st : Sto) : fTuple [.tup ds] st = some (.tup ds, st) := rfl
theorem fTuple_lst (ds : List D) (st : Sto) : fTuple [.lst ds] st = some (.tup ds, st) := rfl
theorem alloc_f (ds : List D) (st : Sto) : alloc false ds st = (.lst ds, st) := rfl
theorem alloc_t (ds : List D) (st : Sto) : alloc true ds st = (.loc st.length, st ++ [.lst ds]) := rfl
theorem fEq_int (i j : Int) (st : Sto) : fEq (.int i) (.int j) st = some (.bl (decide (i = j)), st) := rfl
theorem fNe_int (i j : Int) (st : Sto) : fNe (.int i) (.int j) st = some (.bl (!decide (i = j)), st) := rfl
theorem fMaxL_2 (i j : Int) (st : Sto) : fMaxL [.int i, .int j] st = some (.int (if j > i then j else i), st) := rfl
theorem fMinL_2 (i j : Int) (st : Sto) : fMinL [.int i, .int j] st = some (.int (if j < i then j else i), st) := rfl
theorem fSorted_ints (ns : List Int) (st : Sto) : fSorted false [.lst (ns.map D.int)] st = some (.lst ((sortI ns).map D.int), st) := by
  show ((intsOf (ns.map D.int)).map _) = _
  rw [intsOf_map]
  rfl
theorem fIsN_int (neg : Bool) (i : Int) (st : Sto) : fIsN neg (.int i) .non st = some (.bl neg, st) := by cases neg <;> rfl
theorem fIsN_non (neg : Bool) (st : Sto) : fIsN neg .non .non st = some (.bl (!neg), st) := by cases neg <;> rfl
theorem fIsN_tup (neg : Bool) (ds : List D) (st : Sto) : fIsN neg (.tup ds) .non st = some (.bl neg, st) := by cases neg <;> rfl
theorem fInt_int (i : Int) (st : Sto) : fInt [.int i] st = some (.int i, st) := rfl
def oD : Option Int → D
  | none => .non
  | some i => .int i
end My
namespace My
theorem szlt {n : Nat} (h : n < 10000000) : n < PySem.sizeLine := Nat.lt_of_lt_of_le h (by decide)
theorem szle {n : Nat} (h : n < 10000000) : n ≤ PySem.sizeLine := Nat.le_of_lt (szlt h)
theorem szle0 : 0 ≤ PySem.sizeLine := Nat.zero_le _
theorem lg {n : Nat} (h : n < 2 ^ 9000) (h0 : 0 < n) : n.log2 < 9000 := (Nat.log2_lt (by omega)).mpr h
theorem lgI {n : Int} (h : n < 10 ^ 18) (h0 : 0 < n) : n.natAbs.log2 < 9000 := by
  refine Nat.lt_of_lt_of_le ((Nat.log2_lt (n := n.natAbs) (k := 60) (by omega)).mpr ?_) (by decide)
  have : (10 : Int) ^ 18 < 2 ^ 60 := by decide
  have e : ((2 ^ 60 : Nat) : Int) = 2 ^ 60 := by decide
  omega
end My
namespace My
open PySem PySem.Spec PyProof.Rows L2
theorem atI_natCast {α : Type} (xs : List α) (j : Nat) : atI xs (j : Int) = xs[j]? := by
  by_cases h : j < xs.length
  · rw [atI_nat (by omega) (by omega), List.getElem?_eq_getElem h]
    simp
  · rw [List.getElem?_eq_none (by omega)]
    unfold atI ixN
    rw [if_pos (by omega), if_neg (by omega)]
    rfl
theorem fAdd_int (mu : Bool) (i j : Int) (st : Sto) : fAdd mu (.int i) (.int j) st = some (.int (i + j), st) := rfl
theorem fAdd_tup (mu : Bool) (xs ys : List D) (st : Sto) : fAdd mu (.tup xs) (.tup ys) st = if xs.length + ys.length ≤ sizeLine then some (.tup (xs ++ ys), st) else none := rfl
theorem fAdd_lst (mu : Bool) (xs ys : List D) (st : Sto) : fAdd mu (.lst xs) (.lst ys) st = if xs.length + ys.length ≤ sizeLine then some (alloc mu (xs ++ ys) st) else none := rfl
theorem fSub_int (i j : Int) (st : Sto) : fSub (.int i) (.int j) st = some (.int (i - j), st) := rfl
theorem fMul_int (mu : Bool) (i j : Int) (st : Sto) : fMul mu (.int i) (.int j) st = if cMul i j = true then some (.int (i * j), st) else none := Eq.trans rfl (by cases st <;> rfl)
theorem fDiv_int (i j : Int) (st : Sto) : fDiv (.int i) (.int j) st = if cDiv i j = true then some (.int (i / j), st) else none := Eq.trans rfl (by cases st <;> rfl)
theorem fMod_int (i j : Int) (st : Sto) : fMod (.int i) (.int j) st = if cMod i j = true then some (.int (i % j), st) else none := Eq.trans rfl (by cases st <;> rfl)
theorem fNeg_int (i : Int) (st : Sto) : fNeg (.int i) st = some (.int (-i), st) := rfl
theorem fLt_int (i j : Int) (st : Sto) : fLt (.int i) (.int j) st = some (.bl (decide (i < j)), st) := rfl
theorem cDiv_ok {i j : Int} (h : 0 < j) (h2 : j < 10 ^ 18) : cDiv i j = true := by
  unfold cDiv
  rw [decide_eq_true h, decide_eq_true (lgI h2 h)]
  rfl
theorem cMod_ok {i j : Int} (h : 0 < j) : cMod i j = true := decide_eq_true h
theorem cMul_r {i j : Int} (h : -(10 ^ 18) < j ∧ j < 10 ^ 18) : cMul i j = true := by
  unfold cMul
  rw [small_of (i := j) (by omega), Bool.or_true]
theorem cMul_l {i j : Int} (h : -(10 ^ 18) < i ∧ i < 10 ^ 18) : cMul i j = true := by
  unfold cMul
  rw [small_of (i := i) (by omega)]
  rfl
theorem small_ok {i : Int} (h : -(10 ^ 18) < i ∧ i < 10 ^ 18) : small i = true := small_of (by omega)
/-- as the library's, but no check reckons through it -/
theorem b_some {α β : Type} (a : α) (f : α → Option β) : (some a).bind f = f a := Eq.trans (Eq.refl _) (Eq.refl _)
theorem b_none {α β : Type} (f : α → Option β) : (none : Option α).bind f = none := Eq.trans rfl (Eq.refl none)
theorem m_some {α β : Type} (a : α) (f : α → β) : (some a).map f = some (f a) := Eq.trans rfl (Eq.refl _)
end My
namespace My
open PySem PySem.Spec PyProof.Rows L2
theorem look_loc (n : Nat) (st : Sto) : look (.loc n) st = match st[n]? with
    | some (.lst ds) => some ds
    | _ => none := rfl
theorem lookL_loc (n : Nat) (st : Sto) : lookL (.loc n) st = match st[n]? with
    | some (.lst ds) => some ds
    | _ => none := rfl
theorem fLen_loc (n : Nat) (st : Sto) : fLen [.loc n] st = (look (.loc n) st).map fun es => (.int es.length, st) := rfl
theorem ixN_0 (n : Nat) : ixN (n + 1) 0 = some 0 := by
  unfold ixN
  rw [if_pos (by omega), if_pos (by omega)]
  rfl
theorem ixN_1 (n : Nat) : ixN (n + 2) 1 = some 1 := by
  unfold ixN
  rw [if_pos (by omega), if_pos (by omega)]
  rfl
theorem ixN_2 (n : Nat) : ixN (n + 3) 2 = some 2 := by
  unfold ixN
  rw [if_pos (by omega), if_pos (by omega)]
  rfl
theorem ixN_3 (n : Nat) : ixN (n + 4) 3 = some 3 := by
  unfold ixN
  rw [if_pos (by omega), if_pos (by omega)]
  rfl
theorem fSetL_loc (n : Nat) (k : Int) (c : D) (st : Sto) : fSetL (.loc n) (.int k) c st = match st[n]? with
    | some (.lst ds) => (ixN ds.length k).map fun j => st.set n (.lst (ds.set j c))
    | _ => none := rfl
theorem fAppend_loc (n : Nat) (d : D) (st : Sto) : fAppend (.loc n) [d] st = match st[n]? with
    | some (.lst es) => if es.length < sizeLine then some (.non, st.set n (.lst (es ++ [d]))) else none
    | _ => none := rfl
theorem fPop_loc (n : Nat) (st : Sto) : fPop (.loc n) [] st = match st[n]? with
    | some (.lst es) => es[es.length - 1]?.map fun d => (d, st.set n (.lst es.dropLast))
    | _ => none := rfl
theorem fExtend_loc (n : Nat) (b : D) (st : Sto) : fExtend (.loc n) [b] st = match st[n]? with
    | some (.lst es) => (lookL b st).bind fun fs => if es.length + fs.length ≤ sizeLine then some (.non, st.set n (.lst (es ++ fs))) else none
    | _ => none := rfl
end My
namespace My
open PySem PySem.Spec PyProof.Rows L2
theorem last_concat (l : List D) (d : D) : (l ++ [d])[(l ++ [d]).length - 1]? = some d := by simp
theorem fShl_int (i j : Int) (st : Sto) : fShl (.int i) (.int j) st = if cPow i j = true then some (.int (i * 2 ^ j.toNat), st) else none := Eq.trans (Eq.refl _) (Eq.refl _)
theorem fPow_int (i j : Int) (st : Sto) : fPow (.int i) (.int j) st = if cPow i j = true then some (.int (i ^ j.toNat), st) else none := Eq.trans (Eq.refl _) (Eq.refl _)
theorem fAbs_int (i : Int) (st : Sto) : fAbs [.int i] st = some (.int (if i < 0 then -i else i), st) := rfl
theorem two_pos (j : Nat) : (0 : Int) < 1 * 2 ^ j := by
  rw [Int.one_mul]
  exact Int.pow_pos (by decide)
theorem fEq_bl (x y : Bool) (st : Sto) : fEq (.bl x) (.bl y) st = some (.bl (decide (x = y)), st) := rfl
theorem fIsi_tt (ds : List D) (st : Sto) : fIsi [.tup ds, .ty "tuple"] st = some (.bl true, st) := rfl
theorem fIsi_it (i : Int) (st : Sto) : fIsi [.int i, .ty "tuple"] st = some (.bl false, st) := rfl
theorem fIsi_ii (i : Int) (st : Sto) : fIsi [.int i, .ty "int"] st = some (.bl true, st) := rfl
theorem fIsi_ib (i : Int) (st : Sto) : fIsi [.int i, .ty "bool"] st = some (.bl false, st) := rfl
theorem fIsi_is (i : Int) (st : Sto) : fIsi [.int i, .ty "str"] st = some (.bl false, st) := rfl
theorem fIsi_bt (i : Bool) (st : Sto) : fIsi [.bl i, .ty "tuple"] st = some (.bl false, st) := rfl
theorem fIsi_bi (i : Bool) (st : Sto) : fIsi [.bl i, .ty "int"] st = some (.bl true, st) := rfl
theorem fIsi_bb (i : Bool) (st : Sto) : fIsi [.bl i, .ty "bool"] st = some (.bl true, st) := rfl
theorem fIsi_tb (ds : List D) (st : Sto) : fIsi [.tup ds, .ty "bool"] st = some (.bl false, st) := rfl
theorem fIsi_ti (ds : List D) (st : Sto) : fIsi [.tup ds, .ty "int"] st = some (.bl false, st) := rfl
theorem fIsi_ts (ds : List D) (st : Sto) : fIsi [.tup ds, .ty "str"] st = some (.bl false, st) := rfl
theorem cut_ints (ns : List Int) (k : Int) (h : 0 ≤ k) : cutD (ns.map D.int) none (some k) = (ns.take k.toNat).map D.int := by
  rw [cutD_take _ _ h, List.map_take]
theorem rng_get {lo : Int} {n i : Nat} {d : D} (h : (rngD lo n)[i]? = some d) : d = .int (lo + i) ∧ i < n := by
  unfold rngD at h
  rw [List.getElem?_map] at h
  obtain ⟨j, hj, rfl⟩ := Option.map_eq_some_iff.mp h
  obtain ⟨h1, h2⟩ := List.getElem?_eq_some_iff.mp hj
  rw [List.getElem_range] at h2
  rw [List.length_range] at h1
  subst h2
  exact ⟨rfl, h1⟩
theorem ints_get {ns : List Int} {i : Nat} {d : D} (h : (ns.map D.int)[i]? = some d) : ∃ n, ns[i]? = some n ∧ d = .int n := by
  rw [List.getElem?_map] at h
  obtain ⟨n, h1, h2⟩ := Option.map_eq_some_iff.mp h
  exact ⟨n, h1, h2.symm⟩
/-- numbers, None, tuples of such, to a depth -/
inductive Pl : Nat → D → Prop where
  | non (n : Nat) : Pl n .non
  | int (n : Nat) (i : Int) : Pl n (.int i)
  | bl (n : Nat) (b : Bool) : Pl n (.bl b)
  | tup (n : Nat) (ds : List D) (hl : ds.length < 10000000) (h : ∀ d ∈ ds, Pl n d) : Pl (n + 1) (.tup ds)
theorem Pl.mono {n m : Nat} {d : D} (h : Pl n d) (l : n ≤ m) : Pl m d := by
  induction h generalizing m with
  | non => exact .non m
  | int n i => exact .int m i
  | bl n i => exact .bl m i
  | tup n ds hl h ih =>
    obtain ⟨k, rfl⟩ : ∃ k, m = k + 1 := ⟨m - 1, by omega⟩
    exact .tup k ds hl fun d hd => ih d hd (by omega)
theorem Pl.ints (ns : List Int) (h : ns.length < 10000000) : Pl 1 (.tup (ns.map .int)) := .tup 0 _ (by simpa using h) fun d hd => by
  obtain ⟨i, _, rfl⟩ := List.mem_map.mp hd
  exact .int 0 i
theorem Pl.oD (n : Nat) (x : Option Int) : Pl n (My.oD x) := by
  cases x with
  | none => exact .non n
  | some i => exact .int n i
end My


namespace My
open PySem PySem.Spec PyProof.Rows L2
/-! ### set(xs) of a list of ints, so that it may be gone through -/
/-- the object that set() lays before it is filled -/
abbrev bareSet (w : World) : Obj := { cls := .type "set", dict := none, data := .set #[] 0 (.fresh 0 0 (!w.params.followText "set-order")) }
section
variable {P : Program} {w : World} {A : Around} {E : Value → Shared → Prop} {s : Shared}
set_option maxHeartbeats 8000000 in
theorem set_of_list {l : Addr} {vs : Array Value} (ns : List Int) {Q : Value → Shared → Prop} (calm : A.handled = none) (isl : s.heap.IsList l vs) (ari : IntsAre vs.toList ns) (few : ns.length + 1 < scanBound)
    (fin : ∀ (g : Heap) (tk c : Nat), SetR w g s.heap.objs.size (fun j => decide (j ∈ ns)) c → c ≤ ns.length → (∀ b o, s.heap.get? b = some o → g.get? b = some o) → Q (.ref s.heap.objs.size) { s with heap := g, toks := tk }) :
    wpAny (model P w) A (call (.type "set") [.ref l]) Q E s := by
  have sz : vs.size = ns.length := (Array.length_toList (xs := vs)).symm.trans (IntsAre.length ari)
  let D : Addr := s.heap.objs.size
  obtain ⟨c, tl, mro⟩ := F.called_set.mro
  have made := F.called_set.made
  have sub := F.called_set.sub
  have nt := F.called_set.notType
  have cc := F.called_set.canCreate
  have ct := F.typeCall_set_1 (.ref l)
  refine wpAny_call (codeAny_of_tree (?_ : wpAny _ _ (callAny (.type "set") _) _ _ _))
  refine wpAny_pure ⟨Code.quiet_builtin _ (by decide +kernel), codeAny_builtin F.entry_type_call (?_ : _)⟩
  rw [Around.under_plain (weight_type_call_type "set" [.ref l] []) rfl]
  repeat (any_goals (first | assumption | wp_step))
  refine codeAny_mono (code_set_led1 (.ref l) (E := E) (Q₁ := fun x u => x = .ref D ∧ u = { s with heap := s.heap.push (bareSet w) }) ⟨rfl, rfl⟩) fun r u hr => ?_
  match r, hr with
  | .error e, hr => exact hr
  | .ok (.ret x), ⟨ex, eu⟩ =>
    subst ex
    subst eu
    have gD : (s.heap.push (bareSet w)).get? D = some (bareSet w) := Heap.get?_push_size _ rfl
    have tD : Shared.TypeIs { s with heap := s.heap.push (bareSet w) } (.ref D) "set" := ⟨_, gD, rfl⟩
    have il := F.called_set.init.lookup
    have ib := F.called_set.init.bind (.ref D)
    repeat (any_goals (first | assumption | wp_step))
    refine codeAny_mono (codeAny_call_builtin (R := wants (fun r u => r = .none ∧ ∃ g tk c, u = { s with heap := g, toks := tk } ∧ SetR w g D (fun j => decide (j ∈ ns)) c ∧ c ≤ ns.length ∧ (∀ b o, s.heap.get? b = some o → g.get? b = some o)) E) F.called_set.init.plain F.entry_set_init (check_set_init_1 tD ?_)) fun r u hr => ?_
    · obtain ⟨⟨oc, od, ox, os⟩, ho, e1, nl, e2⟩ := isl
      simp only at e1 e2
      subst e1
      subst e2
      have ho2 : (s.heap.push (bareSet w)).get? l = some { cls := .type "list", dict := od, data := .seq vs nl, slots := os } := Heap.get?_push_of_some _ ho
      have isl2 : (s.heap.push (bareSet w)).IsList l vs := ⟨_, ho2, rfl, nl, rfl⟩
      have n1 := F.sub_list_set
      have n2 := F.sub_list_frozenset
      have n3 : (Value.type "list" == Value.type "dict") = false := by decide
      unfold Builtin.«set.__init__» noKeywords Builtin.Frozenset.updateFrom
      generalize hit : pyIter = it
      wp_walk
      subst hit
      refine wpAny_pyIter_list isl2 (wpAny_bind (wpAny_runValue (?_ : _)))
      have lD : l < D := Heap.lt_size ho
      have zI : (s.heap.push (bareSet w)).objs.size = D + 1 := Heap.size_push ..
      have nI : l ≠ (s.heap.push (bareSet w)).objs.size := by
        rw [zI]
        exact Nat.ne_of_lt (Nat.lt_succ_of_lt lD)
      have nD : D ∉ [(s.heap.push (bareSet w)).objs.size, l] := by
        rw [zI]
        intro m
        rcases List.mem_cons.mp m with m | m
        · exact Nat.ne_of_lt (Nat.lt_succ_self D) m
        · exact Nat.ne_of_gt lD (List.mem_singleton.mp m)
      have val : ∀ (i : Nat) (v : Value), vs[i]? = some v → ∃ k t, ns[i]? = some k ∧ v = .int k t := by
        intro i v hv
        have hi : i < ns.length := sz ▸ (Array.getElem?_eq_some_iff.mp hv).1
        obtain ⟨t, e⟩ := PyProof.Rows.IntsAre.int_at ari i v (by rw [Array.getElem?_toList]; exact hv)
        refine ⟨ns[i], t, List.getElem?_eq_getElem hi, e.trans ?_⟩
        rw [List.getD_eq_getElem?_getD, List.getElem?_eq_getElem hi]
        rfl
      refine set_update_ints ((Walks.list (by simp [calm] : A.in1.in1.in1.handled = none) _ l nI vs).toS) D nD ns sz few val (vs.size - 0) 0 _ (by omega) (Nat.zero_le _) ⟨⟨_, Heap.get?_push_size _ rfl, rfl, rfl⟩, (isl2.push _)⟩ ⟨0, Nat.le_refl 0, setR_new_at (Heap.get?_push_of_some _ gD)⟩ ?_
      rintro ⟨g, gs, dr, tk, os2⟩ c hm hc hS
      obtain rfl : gs = s.gens := hm.gens
      obtain rfl : dr = s.drawn := hm.drawn
      obtain rfl : os2 = s.os := hm.os
      refine wpAny_pure (?_ : wpAny _ _ (ret Value.none) _ _ _)
      refine wpAny_pure ⟨rfl, g, tk, c, rfl, hS, by rw [← sz]; exact hc, fun b o e => ?_⟩
      have bD : b < D := Heap.lt_size e
      refine hm.heap b o (fun m => ?_) (Heap.get?_push_of_some _ (Heap.get?_push_of_some _ e))
      rcases List.mem_cons.mp m with m | m
      · exact Nat.ne_of_lt bD m
      · have m2 := List.mem_singleton.mp m
        rw [zI] at m2
        exact Nat.ne_of_lt (Nat.lt_succ_of_lt bD) m2
    · match r, hr with
      | .error e, hr => exact hr
      | .ok (.ret r), ⟨er, g, tk, c, eu, hS, hc, hk⟩ =>
        subst er
        subst eu
        repeat (any_goals (first | assumption | wp_step))
        exact fin _ _ _ hS hc hk
end
end My


namespace My
open PySem PySem.Spec PyProof.Rows L2
/-! ### sorted lists without twins -/
def uq : List Int → List Int
  | [] => []
  | [x] => [x]
  | x :: y :: r => if x = y then uq (y :: r) else x :: uq (y :: r)
theorem mem_uq {k : Int} : ∀ {l : List Int}, k ∈ uq l ↔ k ∈ l
  | [] => Iff.rfl
  | [x] => Iff.rfl
  | x :: y :: r => by
    unfold uq
    have ih := mem_uq (k := k) (l := y :: r)
    by_cases h : x = y
    · rw [if_pos h, ih, List.mem_cons, h]
      simp
    · rw [if_neg h, List.mem_cons, ih, List.mem_cons (l := y :: r)]
theorem uq_lt : ∀ {l : List Int}, l.Pairwise (· ≤ ·) → (uq l).Pairwise (· < ·)
  | [], _ => List.Pairwise.nil
  | [x], _ => List.pairwise_singleton _ _
  | x :: y :: r, h => by
    obtain ⟨h1, h2⟩ := List.pairwise_cons.mp h
    unfold uq
    by_cases e : x = y
    · rw [if_pos e]
      exact uq_lt h2
    · rw [if_neg e]
      refine List.pairwise_cons.mpr ⟨fun z hz => ?_, uq_lt h2⟩
      have hz2 := mem_uq.mp hz
      have xy := h1 y (List.mem_cons_self ..)
      rcases List.mem_cons.mp hz2 with rfl | m
      · omega
      · have := (List.pairwise_cons.mp h2).1 z m
        omega
def sU (ns : List Int) : List Int := uq (sortI ns)
theorem sU_lt (ns : List Int) : (sU ns).Pairwise (· < ·) := uq_lt (sortI_pair ns)
theorem mem_sU {k : Int} {ns : List Int} : k ∈ sU ns ↔ k ∈ ns := by
  unfold sU
  rw [mem_uq, (sortI_perm ns).mem_iff]
theorem lt_uniq : ∀ {a b : List Int}, a.Pairwise (· < ·) → b.Pairwise (· < ·) → (∀ k, k ∈ a ↔ k ∈ b) → a = b
  | [], [], _, _, _ => rfl
  | [], y :: b, _, _, h => by have := (h y).mpr (List.mem_cons_self ..); simp at this
  | x :: a, [], _, _, h => by have := (h x).mp (List.mem_cons_self ..); simp at this
  | x :: a, y :: b, ha, hb, h => by
    obtain ⟨a1, a2⟩ := List.pairwise_cons.mp ha
    obtain ⟨b1, b2⟩ := List.pairwise_cons.mp hb
    have e : x = y := by
      rcases List.mem_cons.mp ((h x).mp (List.mem_cons_self ..)) with e | m
      · exact e
      · rcases List.mem_cons.mp ((h y).mpr (List.mem_cons_self ..)) with e | m2
        · exact e.symm
        · have := b1 x m
          have := a1 y m2
          omega
    subst e
    congr 1
    refine lt_uniq a2 b2 fun k => ⟨fun m => ?_, fun m => ?_⟩
    · rcases List.mem_cons.mp ((h k).mp (List.mem_cons_of_mem _ m)) with e | m2
      · have := a1 k m
        omega
      · exact m2
    · rcases List.mem_cons.mp ((h k).mpr (List.mem_cons_of_mem _ m)) with e | m2
      · have := b1 k m
        omega
      · exact m2
/-! ### sets: their rules -/
def rSetI (K : PySem.W.Frag) (w : World) : List V → Hp → VK → Prop := fun xs H Q => ∃ (p : Addr) (ns : List Int), xs = [.ref p] ∧ (SqL K H p (ns.map V.int) ∨ SqT K H p (ns.map V.int)) ∧ ns.length < 4000 ∧
  ∀ (q : Addr) (n : Nat), n ≤ ns.length → H q = none → Q (.ref q) (upd H q (SetO w q (fun k => decide (k ∈ ns)) n))
section
variable {X : Cx}
theorem cr_setI (calm : X.calm = true) : CallR X (.type "set") (rSetI X.K X.w) := by
  intro pins s σ H vs us Q I r h
  obtain ⟨p, ns, rfl, hs, few, q⟩ := h
  rw [Vals.ref1 r]
  have b : ns.length + 1 < scanBound := by
    unfold scanBound
    omega
  have go : ∀ (g : Heap) (tk c : Nat), SetR X.w g s.heap.objs.size (fun j => decide (j ∈ ns)) c → c ≤ ns.length → (∀ b o, s.heap.get? b = some o → g.get? b = some o) → EP X pins σ Q (.ref s.heap.objs.size) { s with heap := g, toks := tk } := fun g tk c S hc k =>
    ⟨.ref _, upd H s.heap.objs.size (SetO X.w s.heap.objs.size (fun j => decide (j ∈ ns)) c), I.laid (t' := tk) k (Nat.le_refl _) (setO_new S), rfl, q _ c hc (I.hok.fresh (Nat.le_refl _))⟩
  rcases hs with hs | hs
  · obtain ⟨its, rv, hl, hz⟩ := I.list hs
    exact set_of_list ns (I.ok.hd calm) hl.isList rv.ints b go
  · obtain ⟨its, rv, hl, hz⟩ := I.tuple hs
    exact call_set_tupI ns (I.ok.hd calm) hl rv.ints b go
/-- sorted(found), of any size -/
theorem sort_set {P : Program} {w : World} {A : Around} {E : Value → Shared → Prop} {s : Shared} {a : Addr} {S : Int → Bool} {n : Nat} {Q : Value → Shared → Prop} (R : SetR w s.heap a S n) (calm : A.handled = none)
    (fin : ∀ u p (out : Array Value) (c : Nat) (ns : List Int), (∀ b o, s.heap.get? b = some o → u.heap.get? b = some o) → u.gens = s.gens ∧ u.os = s.os → s.heap.objs.size ≤ p → u.heap.get? p = some (seqObj "list" out c) → IntsAre out.toList ns → ns.Pairwise (· < ·) → (∀ k, k ∈ ns ↔ S k = true) → ns.length ≤ sizeLine → Q (.ref p) u) :
    wpAny (model P w) A (call (.builtin "sorted") [.ref a]) Q E s := by
  obtain ⟨o, es, ep, t, ho, ⟨cls, _⟩, dat, good, nd, mem, small, fits, _, ris, led⟩ := R
  refine Calls.call_function_entry kind_sorted plain_sorted entry_sorted (args_sorted1 _) ?_
  unfold Builtin.«sorted»
  refine wpAny_bind (m := checkCount "sorted" 1 1 _) (wpAny_pure (wpAny_bind (collect_set (A := A.in1) calm ⟨o, ho, cls, dat⟩ fits small ris led fun u vs ku hz gu ou pm => ?_)))
  have vl : vs.length ≤ sizeLine := by
    rw [pm.length_eq, List.length_map, Array.length_toList]
    exact Nat.le_trans (Nat.le_of_lt small) (by decide)
  have ar : IntsAre vs (vs.map Builtin.Re.reRawOf) := by
    refine ints_of vs fun v hv => ?_
    obtain ⟨e, he, q⟩ := List.mem_map.mp (pm.mem_iff.mp hv)
    obtain ⟨k, tk, h1, _⟩ := good e he
    exact ⟨k, tk, q ▸ h1⟩
  have pk : (vs.map Builtin.Re.reRawOf).Perm (es.toList.map L2.keyOf) := by
    have q := pm.map Builtin.Re.reRawOf
    rw [List.map_map] at q
    exact q
  refine wpAny_bind (wpAny_newList (?_ : _) vl)
  have hL : (u.heap.push (seqObj "list" vs.toArray 0)).get? u.heap.objs.size = some (seqObj "list" vs.toArray 0) := Heap.get?_push_size _ rfl
  refine wpAny_bind (wpAny_holding (wpAny_call_entry slot_list_sort ⟨_, hL, rfl⟩ entry_list_sort (list_sort_treeAny hL ar vl fun out ms a1 a2 a3 => ⟨_, rfl, ?_⟩) (args_list_sort _)))
  obtain ⟨c, hc⟩ := sortedHeap_at (vs := vs) (out := out) hL
  have pn := a2.trans pk
  refine wpAny_pure ⟨_, rfl, fin _ u.heap.objs.size out c ms (fun b x e => ?_) ⟨gu, ou⟩ hz hc a1 (lt_of_le_nodup ms a3 (pn.nodup_iff.mpr nd)) (fun k => by rw [pn.mem_iff, ← mem k]) (by rw [a2.length_eq, List.length_map]; exact vl)⟩
  have q := ku b x e
  have lt := Heap.lt_size q
  exact (sortedHeap_old (Nat.ne_of_lt lt) (by rw [size_push']; exact Nat.lt_succ_of_lt lt) : (sortedHeap (u.heap.push (seqObj "list" vs.toArray 0)) u.heap.objs.size vs out).get? b = (u.heap.push (seqObj "list" vs.toArray 0)).get? b).trans (Heap.get?_push_of_some _ q)
def rSortSet (w : World) : List V → Hp → VK → Prop := fun vs H Q => ∃ (a : Addr) (S : Int → Bool) (n : Nat), vs = [V.ref a] ∧ H a = some (SetO w a S n) ∧
  ∀ (ns : List Int) (p : Addr), ns.Pairwise (· < ·) → (∀ k : Int, k ∈ ns ↔ S k = true) → H p = none → Q (.ref p) (upd H p (.lst (ns.map V.int)))
theorem cr_sortSet (calm : X.calm = true) : CallR X (.builtin "sorted") (rSortSet X.w) := by
  intro pins s σ H vs us Q I r h
  obtain ⟨a, S, n, rfl, ha, q⟩ := h
  rw [Vals.ref1 r]
  refine sort_set (setO_get I ha) (I.ok.hd calm) fun u p out c ns k ⟨g, o⟩ hp hg hi hs hm hl => ?_
  have J : Inv X pins σ (upd H p (.lst (ns.map V.int))) { s with heap := u.heap, gens := u.gens, drawn := u.drawn, toks := u.toks } :=
    I.call (ch := []) (Un.laid k hp (I.hok.fresh hp)) (I.hok.laid k hp ⟨by rw [List.length_map]; exact hl, out.toList, c, vals_of_ints hi, hg⟩) (by rw [g]; exact I.bare) (fun _ z => nomatch z)
  have e : u = { s with heap := u.heap, gens := u.gens, drawn := u.drawn, toks := u.toks } := by
    cases u
    cases s
    cases o
    rfl
  rw [e]
  exact ⟨.ref p, _, J, rfl, q ns p hs hm (I.hok.fresh hp)⟩
end
/-! ### sets among the plain values -/
def fSet (ds : List D) (st : Sto) : Option (D × Sto) := match ds with
  | [d] => (look d st).bind fun es => (intsOf es).bind fun ns => if ns.length < 4000 then some (.set ns, st) else none
  | _ => none
def fInS (neg : Bool) (a b : D) (st : Sto) : Option (D × Sto) := match a, b with
  | .int k, .set ns => some (.bl (if neg then !decide (k ∈ ns) else decide (k ∈ ns)), st)
  | _, _ => none
def fSortS (ds : List D) (st : Sto) : Option (D × Sto) := match ds with
  | [.set ns] => some (.lst ((sU ns).map D.int), st)
  | _ => none
section
variable {C : Cy}
theorem ok_set : OkC C (rSetI C.K C.w) fSet := by
  intro H0 as st H ds vs d st' Q w r hf k
  unfold fSet at hf
  split at hf
  · obtain ⟨v, rfl, rv⟩ := reps1 r
    obtain ⟨es, he, hf⟩ := Option.bind_eq_some_iff.mp hf
    obtain ⟨ns, hn, hf⟩ := Option.bind_eq_some_iff.mp hf
    split at hf
    · rename_i few
      cases hf
      obtain ⟨a, us, rfl, hs, hr⟩ := look_seq w rv he
      rw [intsOf_eq hn] at hr
      rw [hr.ints] at hs
      refine ⟨a, ns, rfl, hs, few, fun q n hq hfr => ?_⟩
      obtain ⟨w', l⟩ := w.grow (o := SetO C.w q (fun k => decide (k ∈ ns)) n) hfr
      exact k (.ref q) _ as _ l w' ⟨q, _, n, rfl, upd_same, fun _ => rfl, Nat.le_trans hq (Nat.le_trans (Nat.le_of_lt few) (by decide))⟩
    · cases hf
  · cases hf
theorem ok_inS {neg : Bool} : Ok2 C (fun x y H Q => ∃ k a S n, x = V.int k ∧ y = V.ref a ∧ H a = some (SetO C.w a S n) ∧ Q (.bl (if neg then !S k else S k)) H) (fInS neg) := by
  intro H0 as st H dx dy x y d st' Q w rx ry hf k
  unfold fInS at hf
  split at hf
  · rename_i i ns
    cases hf
    cases (show x = .int i from rx)
    obtain ⟨a, S, n, rfl, ha, hS, hn⟩ := ry
    exact ⟨i, a, S, n, rfl, rfl, w.ex _ _ ha, k.val w (by rw [hS]; rfl)⟩
  · cases hf
theorem ok_sortS : OkC C (rSortSet C.w) fSortS := by
  intro H0 as st H ds vs d st' Q w r hf k
  unfold fSortS at hf
  split at hf
  · rename_i ns
    cases hf
    obtain ⟨v, rfl, rv⟩ := reps1 r
    obtain ⟨a, S, n, rfl, ha, hS, hn⟩ := rv
    refine ⟨a, S, n, rfl, w.ex _ _ ha, fun ms p h1 h2 hp => ?_⟩
    have e : ms = sU ns := lt_uniq h1 (sU_lt ns) fun k => by rw [h2, hS, mem_sU, decide_eq_true_eq]
    rw [e]
    exact k.newL w (Reps.of_ints _) p hp
  · cases hf
end
section
variable {X : Cx}
theorem c_set (hc : X.calm = true := by rfl) : CallR X (.type "set") (rSetI X.K X.w) ∧ OkC (cyOf X) (rSetI X.K X.w) fSet := ⟨cr_setI hc, ok_set⟩
theorem c_sortS (hc : X.calm = true := by rfl) : CallR X (.builtin "sorted") (rSortSet X.w) ∧ OkC (cyOf X) (rSortSet X.w) fSortS := ⟨cr_sortSet hc, ok_sortS⟩
theorem k_inS : OpR X (compareOp .In) (fun x y H Q => ∃ k a S n, x = V.int k ∧ y = V.ref a ∧ H a = some (SetO X.w a S n) ∧ Q (.bl (if false then !S k else S k)) H) ∧ Ok2 (cyOf X) (fun x y H Q => ∃ k a S n, x = V.int k ∧ y = V.ref a ∧ H a = some (SetO X.w a S n) ∧ Q (.bl (if false then !S k else S k)) H) (fInS false) := ⟨or_sin, ok_inS (neg := false)⟩
theorem k_niS : OpR X (compareOp .NotIn) (fun x y H Q => ∃ k a S n, x = V.int k ∧ y = V.ref a ∧ H a = some (SetO X.w a S n) ∧ Q (.bl (if true then !S k else S k)) H) ∧ Ok2 (cyOf X) (fun x y H Q => ∃ k a S n, x = V.int k ∧ y = V.ref a ∧ H a = some (SetO X.w a S n) ∧ Q (.bl (if true then !S k else S k)) H) (fInS true) := ⟨or_snotin, ok_inS (neg := true)⟩
end
end My


namespace My
open PySem PySem.Spec PyProof.Rows L2
/-! ### defs as values -/
abbrev MF := List D → Sto → Option (D × Sto)
def mCV (i : Nat) (fs : List (Str × MF)) (ma : MA) : ME := fun en st => match en[i]? with
  | some (some (.fn nm)) => (fs.lookup nm).bind fun g => (ma en st).bind fun p => g p.1 p.2
  | _ => none
section
variable {X : Cx} {k i : Nat} {x : Str} {p pos : Pos} {e : Expr} {es : List Expr} {ma : MA} {fs : List (Str × MF)} {f : Addr}
structure FnV (X : Cx) (k : Nat) (nm : Str) (g : MF) : Prop where
  ex : ∃ (j : Nat) (f : Addr) (fd : FuncData) (ps : List Str), j ≤ k ∧ PySem.W.nsIn X.K mainGlobals nm = some (some (.ref f)) ∧ FnOk X.prog X.w X.K X.mg X.base CX0 j f fd ps (spM (cyOf X) g) ∧ PySem.W.keepIn X.K (.ref f) = true ∧ Binds X.K fd ps []
theorem x_fn (hg : Gl X x) (hm : X.mg x = some (.ref f)) (hn : PySem.W.nsIn X.K mainGlobals x = some (some (.ref f))) (hd : (x == ("__debug__" : Str)) = false := by decide) : PE X (.Name x pos) (eM (cyOf X) (mC (.fn x))) :=
  PE.imp (pe_glob hg hm (v := .ref f) rfl hd) fun _ _ _ => em_c fun _ _ => ⟨f, rfl, hn⟩
theorem fv_nil : ∀ nm g, ([] : List (Str × MF)).lookup nm = some g → FnV X k nm g := fun _ _ h => by cases h
theorem fv_cons {nm : Str} {g : MF} (h : FnV X k nm g) (t : ∀ nm g, fs.lookup nm = some g → FnV X k nm g) : ∀ nm' g', ((nm, g) :: fs).lookup nm' = some g' → FnV X k nm' g' := fun nm' g' e => by
  rw [List.lookup_cons] at e
  split at e
  · rename_i h2
    have e2 : nm' = nm := by simpa using h2
    cases e
    rw [e2]
    exact h
  · exact t _ _ e
theorem x_callV (F : ∀ nm g, fs.lookup nm = some g → FnV X k nm g) (hr : Room k X.A) (hN : X.N[i]? = some x) (hv : Vis X.env.scope x) (ha : PA X (e :: es) (aM (cyOf X) ma))
    (hdb : (x == ("__debug__" : Str)) = false := by decide) (hcd : (x == ("__classdict__" : Str)) = false := by decide)
    (he : starEach (e :: es) X.env = (false, eval e X.env) :: starEach es X.env := by rfl) (hpl : (backTo pos (starEach es X.env)).any (·.1) = false := by rfl) : PE X (.Call (.Name x p) (e :: es) [] pos) (eM (cyOf X) (mCV i fs ma)) := by
  refine ⟨fun pins s σ H Q I h => ?_⟩
  obtain ⟨H0, as, en, st, d, st', er, w, hm, kq⟩ := h
  unfold mCV at hm
  split at hm
  · rename_i nm hnm
    obtain ⟨g, hg, hm⟩ := Option.bind_eq_some_iff.mp hm
    obtain ⟨⟨da, s1⟩, h1, hm⟩ := Option.bind_eq_some_iff.mp hm
    obtain ⟨j, f, fd, ps, hj, hf, G, hk, hb⟩ := (F nm g hg).ex
    obtain ⟨v, hs, rv⟩ := er.at_ i _ hnm
    obtain ⟨a, rfl, ha'⟩ := rv
    have ef : a = f := by
      have z := ha'.symm.trans hf
      cases z
      rfl
    subst ef
    refine (pe_callL (i := i) (f := a) (sp := spM (cyOf X) g) (dvs := []) G (hr.mono hj) hN hv hk hb .nil pass0 ha hdb hcd he hpl).run pins s σ H Q I ⟨hs, H0, as, en, st, da, s1, er, w, h1, fun vs H1 as1 H1' l1 w1 r1 => ?_⟩
    exact ⟨H1, as1, da, s1, d, st', by rw [List.append_nil]; exact r1, w1, hm, kq.mono l1⟩
  · cases hm
end
end My


namespace My
open PySem PySem.Spec PyProof.Rows L2
/-! ### {k: v, ..} with constant keys -/
def mergeD (kvs more : List (Key × D)) : List (Key × D) := more.foldl (fun acc kv => putD acc kv.1 kv.2) kvs
def mPs : List (Key × ME) → MA
  | [] => mNil
  | (_, m) :: r => mCons m (mPs r)
def mDisp (kms : List (Key × ME)) : ME := fun en st => (mPs kms en (st ++ [.dK []])).bind fun p => match p.2[st.length]? with
  | some (.dK []) => some (.loc st.length, p.2.set st.length (.dK (mergeD [] ((kms.map (·.1)).zip p.1))))
  | _ => none
section
variable {C : Cy}
theorem RepKV.merge {H : Hb} {as : List Addr} : ∀ {more : List (Key × D)} {ms : List (Key × V)} {kvs : List (Key × D)} {vs : List (Key × V)}, RepKV C H as more ms → RepKV C H as kvs vs → RepKV C H as (mergeD kvs more) (mergeK vs ms)
  | [], _, _, _, h, r => by
    cases (show _ = [] from h)
    exact r
  | (k, d) :: more, _, _, _, ⟨v, ms, e, h1, h2⟩, r => by
    subst e
    have z := RepKV.merge (more := more) (ms := ms) h2 (r.put k h1)
    exact z
theorem keyD_rep {H : Hb} {as : List Addr} (k : Key) : Rep C H as (keyD k) (kV k) := by
  cases k <;> rfl
theorem tp_ok {σ : L2.St} : ∀ {kms : List (Key × ME)} {H0 : Hb} {as : List Addr} {en : En} {st st' : Sto} {ds : List D} {H : Hp} {Q : List (V × V) → Hp → Prop}, EnR C H0 as en σ → WR C H0 as st H → mPs kms en st = some (ds, st') →
    (∀ vs H1 as1 H', Le H0 as H1 as1 → WR C H1 as1 st' H' → Reps C H1 as1 ds vs → vs.length = kms.length → Q (((kms.map (·.1)).zip vs).map fun kv => (kV kv.1, kv.2)) H') →
    tPairs (kms.map fun p => (eM C (mC (keyD p.1)), eM C p.2)) σ H Q
  | [], H0, as, en, st, st', ds, H, Q, e, w, h, k => by
    cases h
    exact k [] H0 as H Le.refl w rfl rfl
  | (key, m) :: r, H0, as, en, st, st', ds, H, Q, e, w, h, k => by
    unfold mPs mCons at h
    obtain ⟨⟨d1, s1⟩, h1, h⟩ := Option.bind_eq_some_iff.mp h
    obtain ⟨⟨d2, s2⟩, h2, h⟩ := Option.bind_eq_some_iff.mp h
    cases h
    refine ⟨H0, as, en, st, keyD key, st, e, w, rfl, fun x H1 as1 H1' l1 w1 r1 => ?_⟩
    have ex : x = kV key := by
      cases key
      · exact r1
      · exact r1
    subst ex
    refine ⟨H1, as1, en, st, d1, s1, e.mono l1, w1, h1, fun y H2 as2 H2' l2 w2 r2 => ?_⟩
    refine tp_ok (e.mono (l1.trans l2)) w2 h2 fun vs H3 as3 H3' l3 w3 r3 hl => ?_
    have q := k (y :: vs) H3 as3 H3' ((l1.trans l2).trans l3) w3 ⟨y, vs, rfl, r2.mono l3, r3⟩ (by rw [List.length_cons, List.length_cons, hl])
    exact q
theorem em_disp {σ : L2.St} {H : Hp} {Q : VK} {kms : List (Key × ME)} (h15 : kms.length ≤ 15) : eM C (mDisp kms) σ H Q → tDisp (kms.map fun p => (eM C (mC (keyD p.1)), eM C p.2)) σ H Q := by
  rintro ⟨H0, as, en, st, d, st', e, w, hm, k⟩
  intro p hp
  obtain ⟨w', l⟩ := w.push (o := .dK []) hp ⟨[], rfl, rfl⟩
  unfold mDisp at hm
  obtain ⟨⟨ds, s1⟩, h1, hm⟩ := Option.bind_eq_some_iff.mp hm
  dsimp only at hm
  split at hm
  · rename_i hd
    cases hm
    refine tp_ok (e.mono l) w' h1 fun vs H1 as1 H' l1 w1 r1 hl => ?_
    obtain ⟨a, us, ha, hn, hH, hr⟩ := w1.dk hd
    have ep : a = p := by
      have z : (as ++ [p])[st.length]? = some p := by rw [← w.len]; simp
      have z2 := pre_get l1.pre z
      rw [ha] at z2
      cases z2
      rfl
    subst ep
    cases (show us = [] from hr)
    have rz : RepKV C H1 as1 (mergeD [] ((kms.map (·.1)).zip ds)) (mergeK [] ((kms.map (·.1)).zip vs)) := RepKV.merge (RepKV.zip r1) rfl
    refine ⟨hH, (kms.map (·.1)).zip vs, rfl, by rw [List.length_zip, List.length_map]; omega, ?_⟩
    exact k (.ref a) H1 as1 _ (l.trans l1) (w1.put ha hn ⟨_, rfl, rz⟩) ⟨a, ha, rfl⟩
  · cases hm
/-- not e, by truth -/
def mNotT (a : ME) : ME := fun en st => (mT a en st).map fun p => (.bl (!p.1), p.2)
theorem em_notT {σ : L2.St} {H : Hp} {Q : VK} {ma : ME} : eM C (mNotT ma) σ H Q → tNotT C.K (eM C ma) σ H Q := by
  rintro ⟨H0, as, en, st, d, st', e, w, hm, k⟩
  unfold mNotT at hm
  obtain ⟨⟨b, s1⟩, h1, hm⟩ := Option.map_eq_some_iff.mp hm
  cases hm
  exact bm_tru ⟨H0, as, en, st, b, s1, e, w, h1, fun H1 as1 H1' l1 w1 => k _ H1 as1 H1' l1 w1 rfl⟩
end
section
variable {X : Cx} {e a : Expr} {pos : Pos} {ma : ME}
theorem x_notT (ha : PE X a (eM (cyOf X) ma)) : PE X (.UnaryOp .Not a pos) (eM (cyOf X) (mNotT ma)) := PE.imp (pe_notT ha) fun _ _ _ => em_notT
theorem pp_nil : PPs X pos [] [] (([] : List (Key × ME)).map fun p => (eM (cyOf X) (mC (keyD p.1)), eM (cyOf X) p.2)) := pps_nil
theorem pp_str {kx : Str} {j} {p : Pos} {v : Expr} {ks : List (Option Expr)} {vs : List Expr} {kms : List (Key × ME)} (hv : PE X v (eM (cyOf X) ma)) (hr : PPs X pos ks vs (kms.map fun p => (eM (cyOf X) (mC (keyD p.1)), eM (cyOf X) p.2))) :
    PPs X pos (some (.Constant (.str kx) j p) :: ks) (v :: vs) (((.inr kx, ma) :: kms).map fun p => (eM (cyOf X) (mC (keyD p.1)), eM (cyOf X) p.2)) := pps_cons (PE.imp pe_str fun _ _ _ => em_c fun _ _ => rfl) hv hr
theorem x_disp {keys : List (Option Expr)} {values : List Expr} {kms : List (Key × ME)} (h : PPs X pos keys values (kms.map fun p => (eM (cyOf X) (mC (keyD p.1)), eM (cyOf X) p.2))) (h15 : kms.length ≤ 15) (hall : keys.all (·.isSome) = true := by rfl) (hl : keys.length = values.length := by rfl) (h0 : keys ≠ [] := by simp) (hk : keys.length ≤ 15 := by decide) : PE X (.Dict keys values pos) (eM (cyOf X) (mDisp kms)) :=
  PE.imp (pe_disp h hall hl h0 hk) fun _ _ _ => em_disp h15
end
/-! ### what the module holds -/
def KRep (K : PySem.W.Frag) (d : D) (u : Value) : Prop := ∃ v, RelV v u ∧ ∀ (C : Cy) (H : Hb) (as : List Addr), C.K = K → Rep C H as d v
def KReps (K : PySem.W.Frag) (ds : List D) (us : List Value) : Prop := ∃ vs, Vals vs us ∧ ∀ (C : Cy) (H : Hb) (as : List Addr), C.K = K → Reps C H as ds vs
section
variable {K : PySem.W.Frag}
theorem kr_int {i : Int} {t : Tok} : KRep K (.int i) (.int i t) := ⟨.int i, ⟨t, rfl⟩, fun _ _ _ _ => rfl⟩
theorem kr_str {x : Str} {t : Tok} : KRep K (.str x) (.str x t) := ⟨.str x, ⟨t, rfl⟩, fun _ _ _ _ => rfl⟩
theorem krs_nil : KReps K [] [] := ⟨[], .nil, fun _ _ _ _ => rfl⟩
theorem krs_cons {d : D} {u : Value} {ds : List D} {us : List Value} (h : KRep K d u) (t : KReps K ds us) : KReps K (d :: ds) (u :: us) := by
  obtain ⟨v, r, h⟩ := h
  obtain ⟨vs, rs, t⟩ := t
  exact ⟨v :: vs, .cons r rs, fun C H as e => ⟨v, vs, rfl, h C H as e, t C H as e⟩⟩
theorem kr_tup {a : Addr} {od : Option Addr} {its : List Value} {n : Nat} {sl : Array (Option Value)} {ds : List D} (l : K.lookup a = some ⟨.type "tuple", od, .seq its.toArray n, sl⟩) (hz : its.length < 100) (h : KReps K ds its) : KRep K (.tup ds) (.ref a) := by
  obtain ⟨vs, rs, h⟩ := h
  exact ⟨.ref a, rfl, fun C H as e => ⟨a, vs, rfl, .inr ⟨_, its.toArray, n, by rw [e]; exact l, rfl, rfl, Nat.le_trans (Nat.le_of_lt (by simpa using hz)) (by decide), by simpa using rs⟩, h C H as e⟩⟩
def GConst (K : PySem.W.Frag) (mg : Str → Option Value) (x : Str) (d : D) : Prop := ∃ u, mg x = some u ∧ KRep K d u
theorem x_gc {X : Cx} {x : Str} {d : D} {pos : Pos} (h : GConst X.K X.mg x d) (hg : Gl X x) (hd : (x == ("__debug__" : Str)) = false := by decide) : PE X (.Name x pos) (eM (cyOf X) (mC d)) := by
  obtain ⟨u, hm, v, r, h⟩ := h
  exact PE.imp (pe_glob hg hm (v := v) r hd) fun _ _ _ => em_c fun H as => h _ H as rfl
end
end My


namespace My
open PySem PySem.Spec PyProof.Rows L2
/-! ### xs[a:] = ys -/
section
variable {P : Program} {w : World} {A : Around} {E : Value → Shared → Prop} {s : Shared}
theorem bounds_tail {a n : Nat} (h : a ≤ n) : sliceBounds (some (a : Int)) none none n = ((a : Int), (n : Int), 1) := by
  simp only [sliceBounds, Option.getD_none]
  have z : ¬ ((a : Int) < 0) := by omega
  simp only [z, if_false, show (1 : Int) > 0 by decide, if_true]
  congr 1
  omega
set_option maxRecDepth 100000 in
theorem set_tail {l b sl : Addr} {xs ys : Array Value} {n m : Nat} {vl : Value} {a : Nat} {Q : Unit → Shared → Prop} (hl : s.heap.get? l = some { cls := .type "list", data := .seq xs n }) (hb : s.heap.get? b = some { cls := .type "list", data := .seq ys m }) (ne : l ≠ b)
    (hs : s.heap.IsSliceOf sl vl .none .none) (pl : IsPart vl (some (a : Int))) (ha : a ≤ xs.size) (hz : xs.size + ys.size ≤ sizeLine) (q : Q () { s with heap := s.heap.update l (Obj.mapSeq fun zs => zs.extract 0 a ++ ys ++ zs.extract xs.size zs.size) }) :
    wpAny (model P w) A (setItem (.ref l) (.ref sl) (.ref b)) Q E s := by
  have il : s.heap.IsList l xs := PySem.IsL.isList hl
  have ib : s.heap.IsList b ys := PySem.IsL.isList hb
  obtain ⟨o, ho, oc, od⟩ := id hs
  have ts : s.TypeIs (.ref sl) "slice" := ⟨o, ho, oc⟩
  have nstep : ¬ ((rawPart none == rawInt 0) = true) := Bool.false_ne_true
  have nsame : Builtin.List.listSameRef (.ref l) (.ref b) = false := beq_eq_false_iff_ne.mpr ne
  have mx : (max (a : Int) (xs.size : Int)).toNat = xs.size := by omega
  have fits : ((fun zs : Array Value => zs.extract 0 a ++ ys ++ zs.extract xs.size zs.size) xs).size ≤ sizeLine + 1 := by
    simp only [Array.size_append, Array.size_extract]
    omega
  unfold setItem
  try with_reducible refine wpAny_holding ?_
  first | refine wpAny_bind (wpAny_pure ?_) | skip
  refine wpAny_bind (wpAny_sequenceKey il.typeIs (by decide) (wpAny_bind (wpAny_callSpecial?_slot (name := Str.ofString "__setitem__") il.typeIs slot_list_setitem (wpAny_call_entry slot_list_setitem il.typeIs entry_list_setitem (?_ : _) (args_list_setitem _ _ _)))))
  show wpAny _ _ (Builtin.List.listSubscript? (.ref sl) >>= _) _ _ s
  refine wpAny_bind (?_ : _)
  unfold Builtin.List.listSubscript?
  refine wpAny_bind (wpAny_specialOf ts slice_no_index (?_ : _))
  simp only [Option.isNone_none, if_true]
  refine wpAny_pure (?_ : wpAny _ _ (typeOf (.ref sl) >>= _) _ _ s)
  refine wpAny_bind (wpAny_typeOf ts (?_ : _))
  first
    | rw [if_neg (by decide)]
    | exact PySem.W.KFB.if_not (by decide) ?_
  rw [listSliceParts_eq]
  refine wpAny_bind (wpAny_bind (wpAny_field ho od (x := .none) rfl (wpAny_bind (wpAny_listPart .none (?_ : _)))))
  rw [if_neg nstep]
  refine wpAny_bind (wpAny_field ho od (x := vl) rfl (wpAny_bind (wpAny_listPart pl (wpAny_bind (wpAny_field ho od (x := .none) rfl (wpAny_bind (wpAny_listPart .none (wpAny_pure (?_ : _)))))))))
  first
    | simp only [nsame, Bool.false_eq_true, if_false]
    | (dsimp only; rw [if_neg (by rw [nsame]; exact Bool.false_ne_true)])
  refine wpAny_bind (m := Builtin.List.listAllItems (.ref b) "must assign iterable to extended slice") (?_ : _)
  unfold Builtin.List.listAllItems
  refine wpAny_bind (wpAny_typeOf ib.typeIs (?_ : _))
  first
    | rw [if_pos (by decide)]
    | simp only [beq_self_eq_true, Bool.true_or, if_true]
  unfold Builtin.List.listItems
  refine wpAny_bind (wpAny_seqItems hb rfl (wpAny_pure (wpAny_bind (wpAny_bind (wpAny_seqItems hl rfl (wpAny_pure (?_ : _)))))))
  refine wpAny_bind (wpAny_of_eq ((sliceIndices_raw (some (a : Int)) none none xs.size (by simp)).trans (congrArg (pure : Int × Int × Int → Sem (Int × Int × Int)) (bounds_tail ha))) (?_ : wpAny _ _ (if ((1 : Int) == 1) = true then _ else _) _ _ s))
  rw [if_pos (by decide)]
  refine wpAny_bind (wpAny_rule (?_ : _))
  simp only [notLongL hz, Bool.false_eq_true, if_false]
  first | refine wpAny_bind (wpAny_pure ?_) | skip
  show wpAny _ _ (updateSeq l (fun zs => zs.extract 0 ((a : Int)).toNat ++ ys ++ zs.extract (max (a : Int) (xs.size : Int)).toNat zs.size) >>= _) _ _ s
  rw [mx, Int.toNat_natCast]
  refine wpAny_bind (wpAny_updateSeq (hz := Nat.le_trans (Nat.le_add_right _ _) hz) (_hz' := fits) hl rfl (wpAny_bind (wpAny_letGo (?_ : _))))
  first
    | exact wpAny_bind (wpAny_pure (wpAny_pure ⟨.none, rfl, wpAny_pure q⟩))
    | exact wpAny_pure ⟨.none, rfl, wpAny_pure q⟩
end
section
variable {X : Cx}
/-- xs[a:] = ys as a target -/
def gTail (to : TE) (tl : TO) : TG := fun x σ H Q => to σ H fun v H1 => tl σ H1 fun k H2 => ∃ (l b : Addr) (xs ys : List V) (a : Nat), v = .ref l ∧ x = .ref b ∧ k = some (a : Int) ∧ H2 l = some (.lst xs) ∧ H2 b = some (.lst ys) ∧ l ≠ b ∧ a ≤ xs.length ∧ xs.length + ys.length ≤ sizeLine ∧ Q σ (upd H2 l (.lst (xs.take a ++ ys)))
theorem pg_tail {o : Expr} {lo : Option Expr} {p2 pos : Pos} {to : TE} {tl : TO} (ho : PE X o to) (hl : PO X lo tl)
    (ha : ∀ v, assign (.Subscript o (.Slice lo none none p2) pos) X.env v = (do
      let ov ← holding [v] (eval o X.env)
      let iv ← holding [v, ov] (eval (.Slice lo none none p2) X.env)
      standAt pos
      holding [v, ov, iv] (setItem ov iv v)
      release [iv, v, ov] []) := by intro _; rfl) : PG X (.Subscript o (.Slice lo none none p2) pos) (gTail to tl) := by
  refine ⟨fun pins s σ H v u Q I r h => ?_⟩
  rw [ha]
  refine wpAny_bind (wpAny_holding (thn (ho.run pins s σ H _ I h) fun ov s1 ⟨x, H1, I1, r1, q1⟩ => wpAny_bind (wpAny_holding (?_ : _))))
  refine wpAny_Slice (thn (hl.run pins s1 σ H1 _ I1 q1) fun vl s2 ⟨k, H2, I2, pl, q2⟩ => ?_)
  rw [evalPart_none]
  refine wpAny_pure (?_ : _)
  refine wpAny_pure (?_ : _)
  obtain ⟨l, b, xs, ys, a, rfl, rfl, rfl, hL, hB, ne, hle, hz, q⟩ := q2
  cases r1
  cases r
  have I3 : Inv X pins σ H2 { s2 with heap := s2.heap.push { cls := .type "slice", data := .fields #[vl, .none, .none] } } := I2.kept (t' := s2.toks) fun b ob q => Heap.get?_push_of_some _ q
  obtain ⟨z1, its, n1, rv1, e0, e1⟩ := I3.lstM hL
  obtain ⟨z2, its2, n2, rv2, e3, e2⟩ := I3.lstM hB
  have sz1 : its.toArray.size = xs.length := by rw [List.size_toArray, rv1.length]
  have sz2 : its2.toArray.size = ys.length := by rw [List.size_toArray, rv2.length]
  refine wpAny_bind (wpAny_standAt (wpAny_bind (wpAny_holding (set_tail e1 e2 ne (Heap.IsSliceOf.new ..) pl (by rw [sz1]; exact hle) (by rw [sz1, sz2]; exact hz) (?_ : _)))))
  have I4 := I3.lset (its' := its.take a ++ its2) (t' := s2.toks) (f := fun zs => zs.extract 0 a ++ its2.toArray ++ zs.extract its.toArray.size zs.size) hL e1 (by
    have e := splice_eq its its2 a its.toArray.size
    rw [e, show its.drop its.toArray.size = [] from List.drop_eq_nil_iff.mpr (by simp), List.append_nil]) (Vals.append (rv1.take a) rv2) (by
    rw [List.length_append, List.length_take]
    omega)
  exact wpAny_release ⟨σ, _, I4, q⟩
end
def fSetT (a : D) (lo : Option Int) (c : D) (st : Sto) : Option Sto := match a, lo, c with
  | .loc n, some k, .lst ds => match st[n]? with
    | some (.lst es) => if 0 ≤ k ∧ k.toNat ≤ es.length ∧ es.length + ds.length ≤ sizeLine then some (st.set n (.lst (es.take k.toNat ++ ds))) else none
    | _ => none
  | _, _, _ => none
def mgTail (a : ME) (b : MO) : MG := fun d en st => (a en st).bind fun p => (b en p.2).bind fun q => (fSetT p.1 q.1 d q.2).map fun s => (en, s)
theorem ok_setT {C : Cy} {H0 : Hb} {as : List Addr} {st st' : Sto} {H : Hp} {a c : D} {lo : Option Int} {x z : V} {σ : L2.St} {Q : L2.St → Hp → Prop} (w : WR C H0 as st H) (rx : Rep C H0 as a x) (rz : Rep C H0 as c z) (hf : fSetT a lo c st = some st') (k : ∀ H', WR C H0 as st' H' → Q σ H') :
    ∃ (l b : Addr) (xs ys : List V) (a : Nat), x = .ref l ∧ z = .ref b ∧ lo = some (a : Int) ∧ H l = some (.lst xs) ∧ H b = some (.lst ys) ∧ l ≠ b ∧ a ≤ xs.length ∧ xs.length + ys.length ≤ sizeLine ∧ Q σ (upd H l (.lst (xs.take a ++ ys))) := by
  unfold fSetT at hf
  split at hf
  · rename_i n j ds
    split at hf
    · rename_i es he
      split at hf
      · rename_i hc
        cases hf
        obtain ⟨a', us, ha', hn, h1, hr⟩ := w.loc he
        obtain ⟨a'', ha'', rfl⟩ := rx
        rw [ha'] at ha''
        cases ha''
        obtain ⟨b', vs, rfl, hs', hr'⟩ := rz
        have hr2 : Reps C H0 as (es.take j.toNat ++ ds) (us.take j.toNat ++ vs) := Reps.append (Reps.take j.toNat hr) hr'
        refine ⟨a', b', us, vs, j.toNat, rfl, rfl, by rw [show ((j.toNat : Nat) : Int) = j by omega], h1, w.ex _ _ hs', ?_, by rw [← hr.length]; exact hc.2.1, by rw [← hr.length, ← hr'.length]; exact hc.2.2, k _ (w.put ha' hn ⟨_, rfl, hr2⟩)⟩
        intro e
        subst e
        rw [hn] at hs'
        cases hs'
      · cases hf
    · cases hf
  · cases hf
theorem gm_tail {C : Cy} {σ : L2.St} {H : Hp} {v : V} {Q : L2.St → Hp → Prop} {a : ME} {b : MO} : gM C (mgTail a b) v σ H Q → gTail (eM C a) (oM C b) v σ H Q := by
  rintro ⟨H0, as, en, st, d, en', st', e, w, r, hs, k⟩
  unfold mgTail at hs
  obtain ⟨⟨da, s1⟩, ha, hs⟩ := Option.bind_eq_some_iff.mp hs
  obtain ⟨⟨db, s2⟩, hb, hs⟩ := Option.bind_eq_some_iff.mp hs
  obtain ⟨s3, h3, e3⟩ := Option.map_eq_some_iff.mp hs
  cases e3
  refine ⟨H0, as, en, st, da, s1, e, w, ha, fun x H1 as1 H1' l1 w1 r1 => ?_⟩
  refine ⟨H1, as1, en, s1, db, s2, e.mono l1, w1, hb, fun H2 as2 H2' l2 w2 => ?_⟩
  exact ok_setT w2 (r1.mono l2) (r.mono (l1.trans l2)) h3 fun H' w' => k σ H2 as2 H' (l1.trans l2) w' (e.mono (l1.trans l2))
theorem g_tail {X : Cx} {o : Expr} {lo : Option Expr} {p2 pos : Pos} {ma : ME} {ml : MO} (ho : PE X o (eM (cyOf X) ma)) (hl : PO X lo (oM (cyOf X) ml))
    (ha : ∀ v, assign (.Subscript o (.Slice lo none none p2) pos) X.env v = (do
      let ov ← holding [v] (eval o X.env)
      let iv ← holding [v, ov] (eval (.Slice lo none none p2) X.env)
      standAt pos
      holding [v, ov, iv] (setItem ov iv v)
      release [iv, v, ov] []) := by intro _; rfl) : PG X (.Subscript o (.Slice lo none none p2) pos) (gM (cyOf X) (mgTail ma ml)) := PG.imp (pg_tail ho hl ha) fun _ _ _ _ => gm_tail
/-! ### insert -/
def fInsert (a : D) (ds : List D) (st : Sto) : Option (D × Sto) := match a, ds with
  | .loc n, [.int i, d] => match st[n]? with
    | some (.lst es) => if es.length < sizeLine ∧ 0 ≤ i ∧ i < 2 ^ 63 then some (.non, st.set n (.lst (es.take i.toNat ++ [d] ++ es.drop i.toNat))) else none
    | _ => none
  | _, _ => none
def rInsert : V → List V → Hp → VK → Prop := fun x vs H Q => ∃ (l : Addr) (xs : List V) (i : Int) (y : V), x = .ref l ∧ vs = [.int i, y] ∧ H l = some (.lst xs) ∧ xs.length < sizeLine ∧ 0 ≤ i ∧ i < 2 ^ 63 ∧ Q .non (upd H l (.lst (xs.take i.toNat ++ [y] ++ xs.drop i.toNat)))
theorem ok_insert {C : Cy} : OkM C rInsert fInsert := by
  intro H0 as st H dx ds x vs d st' Q w rx rs hf k
  unfold fInsert at hf
  split at hf
  · split at hf
    · rename_i he
      split at hf
      · rename_i hl
        cases hf
        obtain ⟨v1, r1, rfl, e1, rs⟩ := rs
        obtain ⟨v2, r2, rfl, e2, rs⟩ := rs
        cases (show r2 = [] from rs)
        cases (show v1 = .int _ from e1)
        obtain ⟨a, us, ha, hn, h1, hr⟩ := w.loc he
        obtain ⟨a', ha', rfl⟩ := rx
        rw [ha] at ha'
        cases ha'
        refine ⟨a, us, _, v2, rfl, rfl, h1, by rw [← hr.length]; exact hl.1, hl.2.1, hl.2.2, k.put w ha hn ⟨_, rfl, ?_⟩ rfl⟩
        exact Reps.append (Reps.append (Reps.take _ hr) (Reps.one e2)) (Reps.drop _ hr)
      · cases hf
    · cases hf
  · cases hf
section
variable {X : Cx}
theorem x_insert {apos cpos : Pos} {o e f : Expr} {mo : ME} {mr : MA} (ho : PE X o (eM (cyOf X) mo)) (ha : PA X [e, f] (aM (cyOf X) mr)) (hbase : attributeBase o "insert" X.env (eval o X.env) = eval o X.env := by rfl)
    (hfew : ((backTo cpos (starEach [e, f] X.env)).all (fun x => !x.1) && (backToKw cpos (keywordEach [] X.env)).all (fun x => x.1.isSome) && decide ([e, f].length + ([] : List Keyword).length + (if ([] : List Keyword).isEmpty then 0 else 1) < 30)) = true := by rfl)
    (hline : (apos.endLine == cpos.line) = true := by rfl) (hs : starEach [e, f] X.env = (false, eval e X.env) :: starEach [f] X.env := by rfl) (hplain : (backTo cpos (starEach [f] X.env)).any (·.1) = false := by rfl) :
    PE X (.Call (.Attribute o "insert" apos) [e, f] [] cpos) (eM (cyOf X) (mMt fInsert mo mr)) := PE.imp (pe_bm PySem.F.plainAttrs_list PySem.F.slot_list_insert PySem.F.type_list_insert mt_insert ho ha hbase hfew hline hs hplain) fun _ _ _ => em_mt ok_insert
end
/-! ### tuple(range(n)) -/
def mTupR (m : ME) : ME := fun en st => (m en st).bind fun p => match p.1 with
  | .int n => if 0 ≤ n ∧ n ≤ 16777216 then some (.tup (rngD 0 n.toNat), p.2) else none
  | _ => none
theorem rgV_ints (n : Int) : rgV 0 n = (rngI 0 n.toNat).map V.int := by
  unfold rgV rngI
  rw [List.map_map, Int.sub_zero]
  rfl
theorem em_tupR {C : Cy} {σ : L2.St} {H : Hp} {Q : VK} {m : ME} : eM C (mTupR m) σ H Q → tTupRg (tRg1 (eM C m)) σ H Q := by
  rintro ⟨H0, as, en, st, d, st', e, w, hm, k⟩
  unfold mTupR at hm
  obtain ⟨⟨d1, s1⟩, h1, hm⟩ := Option.bind_eq_some_iff.mp hm
  dsimp only at hm
  split at hm
  · rename_i n
    split at hm
    · rename_i hn
      cases hm
      refine ⟨H0, as, en, st, .int n, _, e, w, h1, fun x H1 as1 H1' l1 w1 r1 => ?_⟩
      cases (show x = .int n from r1)
      refine ⟨n, rfl, RgOk.of_le (by decide) hn.2 (by decide) hn.1, ?_⟩
      rw [rgV_ints]
      have q := (k.mono l1).newT w1 (vs := (rngI 0 n.toNat).map V.int) (by rw [rngD_eq]; exact Reps.of_ints _)
      exact q
    · cases hm
  · cases hm
theorem x_tupR {X : Cx} {p q r pos : Pos} {a : Expr} {m : ME} (hc : X.calm = true) (hg : Gl X "tuple") (hm : X.mg "tuple" = none) (hg2 : Gl X "range") (hm2 : X.mg "range" = none) (ha : PE X a (eM (cyOf X) m))
    (na : starEach [a] X.env = (false, eval a X.env) :: starEach [] X.env := by rfl) (nb : starEach [.Call (.Name "range" r) [a] [] q] X.env = (false, eval (.Call (.Name "range" r) [a] [] q) X.env) :: starEach [] X.env := by rfl) :
    PE X (.Call (.Name "tuple" p) [.Call (.Name "range" r) [a] [] q] [] pos) (eM (cyOf X) (mTupR m)) := PE.imp (pe_tupRg hc hg hm (prg_1 hg2 hm2 ha na) nb) fun _ _ _ => em_tupR
end My


set_option maxHeartbeats 1000000
/-! Round sets: plain mathematics. -/
namespace My
structure Rs where
  few : List Int
  first : Int
  turn : Int
  rests : List Int
structure Rs.Wf (a : Rs) : Prop where
  few : a.few.Pairwise (· < ·)
  fewIn : ∀ m ∈ a.few, 0 ≤ m ∧ m < a.first
  first : 0 ≤ a.first
  turn : 0 < a.turn
  rests : a.rests.Pairwise (· < ·)
  restsIn : ∀ r ∈ a.rests, 0 ≤ r ∧ r < a.turn
def Rs.d (a : Rs) : D := .tup [.tup (a.few.map .int), .int a.first, .int a.turn, .tup (a.rests.map .int)]
def Rs.has (a : Rs) (n : Int) : Bool := if n < a.first then decide (n ∈ a.few) else decide (n % a.turn ∈ a.rests)
theorem look_d (a : Rs) (st : Sto) : look a.d st = some [.tup (a.few.map .int), .int a.first, .int a.turn, .tup (a.rests.map .int)] := rfl
theorem Rs.has_lo {a : Rs} {n : Int} (h : n < a.first) : a.has n = decide (n ∈ a.few) := by unfold Rs.has; rw [if_pos h]
theorem Rs.has_hi {a : Rs} {n : Int} (h : a.first ≤ n) : a.has n = decide (n % a.turn ∈ a.rests) := by unfold Rs.has; rw [if_neg (by omega)]
/-- how many are so in [s, s + n) -/
def cntP (p : Int → Bool) (s : Int) : Nat → Nat
  | 0 => 0
  | n + 1 => cntP p s n + (if p (s + n) then 1 else 0)
theorem cntP_add (p : Int → Bool) (s : Int) (n : Nat) : ∀ m : Nat, cntP p s (n + m) = cntP p s n + cntP p (s + n) m
  | 0 => rfl
  | m + 1 => by
    show cntP p s (n + m) + (if p (s + ((n + m : Nat) : Int)) then 1 else 0) = cntP p s n + (cntP p (s + n) m + (if p (s + n + (m : Int)) then 1 else 0))
    rw [cntP_add p s n m, show s + ((n + m : Nat) : Int) = s + n + m by omega]
    omega
theorem cntP_congr {p q : Int → Bool} {s : Int} : ∀ {n : Nat}, (∀ x, s ≤ x → x < s + n → p x = q x) → cntP p s n = cntP q s n
  | 0, _ => rfl
  | n + 1, h => by
    show cntP p s n + _ = cntP q s n + _
    rw [cntP_congr (n := n) fun x h1 h2 => h x h1 (by omega), h (s + n) (by omega) (by omega)]
theorem cntP_shift (p : Int → Bool) (s d : Int) : ∀ n : Nat, cntP (fun x => p (x + d)) s n = cntP p (s + d) n
  | 0 => rfl
  | n + 1 => by
    show cntP _ s n + (if p (s + (n : Int) + d) then 1 else 0) = cntP p (s + d) n + _
    rw [cntP_shift p s d n, show s + (n : Int) + d = s + d + n by omega]
theorem cntP_le (p : Int → Bool) (s : Int) : ∀ n : Nat, cntP p s n ≤ n
  | 0 => Nat.le_refl _
  | n + 1 => by
    show cntP p s n + _ ≤ n + 1
    have := cntP_le p s n
    split <;> omega
theorem cntP_rng (p : Int → Bool) (s : Int) : ∀ n : Nat, ((rngI s n).filter p).length = cntP p s n
  | 0 => rfl
  | n + 1 => by
    unfold rngI
    rw [List.range_succ, List.map_append, List.filter_append, List.length_append]
    have ih := cntP_rng p s n
    unfold rngI at ih
    rw [ih]
    show _ = cntP p s n + _
    rw [List.map_cons, List.map_nil]
    split
    · rename_i h
      rw [List.filter_cons_of_pos h]
      rfl
    · rename_i h
      rw [List.filter_cons_of_neg h]
      rfl
/-- one window of a turn is as good as another -/
theorem cntP_window {p : Int → Bool} {t : Nat} (hp : ∀ x, p (x + t) = p x) (s : Int) : ∀ n : Nat, cntP p (s + n) t = cntP p s t
  | 0 => by simp
  | n + 1 => by
    rw [← cntP_window hp s n]
    have a := cntP_add p (s + n) 1 t
    have b := cntP_add p (s + n) t 1
    rw [Nat.add_comm 1 t] at a
    have c : cntP p (s + n) 1 = if p (s + n) then 1 else 0 := by
      show 0 + _ = _
      simp
    have d : cntP p (s + n + t) 1 = if p (s + n) then 1 else 0 := by
      show 0 + (if p (s + n + t + (0 : Nat)) then 1 else 0) = _
      rw [show s + (n : Int) + t + ((0 : Nat) : Int) = s + n + t by omega, hp]
      simp
    rw [show s + ((n + 1 : Nat) : Int) = s + n + (1 : Nat) by omega]
    omega
theorem cntP_windowZ {p : Int → Bool} {t : Nat} (hp : ∀ x, p (x + t) = p x) (s u : Int) : cntP p u t = cntP p s t := by
  rcases Int.le_total s u with h | h
  · have e : u = s + ((u - s).toNat : Int) := by omega
    rw [e]
    exact cntP_window hp s _
  · have e : s = u + ((s - u).toNat : Int) := by omega
    rw [e]
    exact (cntP_window hp u _).symm
theorem cntP_turns {p : Int → Bool} {t : Nat} (hp : ∀ x, p (x + t) = p x) (s : Int) : ∀ q : Nat, cntP p s (q * t) = q * cntP p s t
  | 0 => by simp [cntP]
  | q + 1 => by
    rw [Nat.succ_mul, cntP_add, cntP_turns hp s q, cntP_windowZ hp s (s + ((q * t : Nat) : Int)), Nat.succ_mul]
/-- members of an ascending list, counted -/
theorem cntP_mem : ∀ {l : List Int} {s : Int} {n : Nat}, l.Nodup → (∀ x ∈ l, s ≤ x ∧ x < s + n) → cntP (fun x => decide (x ∈ l)) s n = l.length
  | [], s, n, _, _ => by
    have : ∀ n, cntP (fun x => decide (x ∈ ([] : List Int))) s n = 0 := by
      intro n
      induction n with
      | zero => rfl
      | succ n ih =>
        show cntP _ s n + _ = 0
        rw [ih]
        simp
    exact this n
  | y :: l, s, n, hn, hx => by
    have hy := hx y (by simp)
    have ih := cntP_mem (l := l) (s := s) (n := n) hn.of_cons fun x h => hx x (List.mem_cons_of_mem _ h)
    have ny : y ∉ l := (List.nodup_cons.mp hn).1
    have key : ∀ n : Nat, cntP (fun x => decide (x ∈ y :: l)) s n = cntP (fun x => decide (x ∈ l)) s n + (if s ≤ y ∧ y < s + n then 1 else 0) := by
      intro n
      induction n with
      | zero =>
        show 0 = 0 + _
        rw [if_neg (by omega)]
      | succ n ih =>
        show cntP _ s n + _ = (cntP _ s n + _) + _
        rw [ih]
        by_cases e : s + (n : Int) = y
        · rw [if_neg (by omega), if_pos (show s ≤ y ∧ y < s + ((n + 1 : Nat) : Int) by omega), e]
          simp [ny]
        · have e2 : (s + (n : Int) ∈ y :: l) ↔ (s + (n : Int) ∈ l) := by
            rw [List.mem_cons]
            exact ⟨fun h => h.resolve_left e, .inr⟩
          by_cases h1 : s ≤ y ∧ y < s + (n : Int)
          · rw [if_pos h1, if_pos (show s ≤ y ∧ y < s + ((n + 1 : Nat) : Int) by omega)]
            simp only [decide_eq_decide.mpr e2]
            omega
          · rw [if_neg h1, if_neg (show ¬ (s ≤ y ∧ y < s + ((n + 1 : Nat) : Int)) by omega)]
            simp only [decide_eq_decide.mpr e2]
            omega
    rw [key n, ih, if_pos hy, List.length_cons]
theorem nodup_of_lt {l : List Int} (h : l.Pairwise (· < ·)) : l.Nodup := h.imp fun h => Int.ne_of_lt h
section
variable {a : Rs}
def Rs.cnt (a : Rs) (n : Int) : Nat := cntP a.has 0 n.toNat
theorem Rs.Wf.per (w : a.Wf) (x : Int) : decide ((x + (a.turn.toNat : Int)) % a.turn ∈ a.rests) = decide (x % a.turn ∈ a.rests) := by
  have ht := w.turn
  rw [show (a.turn.toNat : Int) = a.turn by omega, Int.add_emod_right]
theorem Rs.Wf.win (w : a.Wf) (s : Int) : cntP (fun x => decide (x % a.turn ∈ a.rests)) s a.turn.toNat = a.rests.length := by
  have ht := w.turn
  rw [cntP_windowZ (p := fun x => decide (x % a.turn ∈ a.rests)) w.per 0 s]
  rw [cntP_congr (q := fun x => decide (x ∈ a.rests)) fun x h1 h2 => by rw [Int.emod_eq_of_lt h1 (by omega)]]
  exact cntP_mem (nodup_of_lt w.rests) fun x hx => by have := w.restsIn x hx; omega
theorem Rs.Wf.cnt_lo (w : a.Wf) {n : Int} (h0 : 0 ≤ n) (h : n ≤ a.first) : a.cnt n = (a.few.filter fun m => decide (m < n)).length := by
  unfold Rs.cnt
  rw [cntP_congr (q := fun x => decide (x ∈ a.few.filter fun m => decide (m < n))) fun x h1 h2 => by
    rw [Rs.has_lo (by omega)]
    exact decide_eq_decide.mpr ⟨fun hx => List.mem_filter.mpr ⟨hx, decide_eq_true (by omega)⟩, fun hx => (List.mem_filter.mp hx).1⟩]
  refine cntP_mem ((nodup_of_lt w.few).filter _) fun x hx => ?_
  obtain ⟨h1, h2⟩ := List.mem_filter.mp hx
  have := w.fewIn x h1
  have := of_decide_eq_true h2
  omega
theorem Rs.Wf.cnt_first (w : a.Wf) : a.cnt a.first = a.few.length := by
  rw [w.cnt_lo w.first (Int.le_refl _), List.filter_eq_self.mpr fun m hm => decide_eq_true (w.fewIn m hm).2]
theorem Rs.Wf.cnt_hi (w : a.Wf) {n : Int} (h : a.first ≤ n) : a.cnt n = a.few.length + cntP (fun x => decide (x % a.turn ∈ a.rests)) a.first (n - a.first).toNat := by
  have h0 := w.first
  rw [← w.cnt_first]
  unfold Rs.cnt
  rw [show n.toNat = a.first.toNat + (n - a.first).toNat by omega, cntP_add, show (0 : Int) + (a.first.toNat : Int) = a.first by omega]
  congr 1
  exact cntP_congr fun x h1 _ => Rs.has_hi h1
/-- whole turns, then what is left -/
theorem Rs.Wf.cnt_turns (w : a.Wf) (q t : Nat) : a.cnt (a.first + q * a.turn + t) = a.few.length + q * a.rests.length + cntP (fun x => decide (x % a.turn ∈ a.rests)) (a.first + q * a.turn) t := by
  have ht := w.turn
  have hq : (0 : Int) ≤ q * a.turn := Int.mul_nonneg (by omega) (by omega)
  have e : ((q * a.turn.toNat : Nat) : Int) = q * a.turn := by
    rw [Int.natCast_mul, show (a.turn.toNat : Int) = a.turn by omega]
  rw [w.cnt_hi (by omega), show (a.first + q * a.turn + t - a.first).toNat = q * a.turn.toNat + t by omega, cntP_add, cntP_turns w.per, w.win, e]
  omega
theorem Rs.cnt_step (a : Rs) {n : Int} (h : 0 ≤ n) : a.cnt (n + 1) = a.cnt n + if a.has n then 1 else 0 := by
  unfold Rs.cnt
  rw [show (n + 1).toNat = n.toNat + 1 by omega]
  show cntP _ 0 n.toNat + _ = _
  rw [show (0 : Int) + (n.toNat : Int) = n by omega]
theorem Rs.cnt_mono (a : Rs) {m n : Int} (h0 : 0 ≤ m) (h : m ≤ n) : a.cnt m ≤ a.cnt n := by
  unfold Rs.cnt
  rw [show n.toNat = m.toNat + (n - m).toNat by omega, cntP_add]
  omega
theorem Rs.cnt_none (a : Rs) {m n : Int} (h0 : 0 ≤ m) (h : m ≤ n) (hn : ∀ k, m ≤ k → k < n → a.has k = false) : a.cnt n = a.cnt m := by
  unfold Rs.cnt
  rw [show n.toNat = m.toNat + (n - m).toNat by omega, cntP_add]
  have : ∀ j : Nat, (j : Int) ≤ n - m → cntP a.has (0 + (m.toNat : Int)) j = 0 := by
    intro j
    induction j with
    | zero => intro _; rfl
    | succ j ih =>
      intro hj
      show cntP _ _ j + _ = 0
      rw [ih (by omega), hn _ (by omega) (by omega)]
      rfl
  rw [this _ (by omega)]
  rfl
/-- a member is told by its place -/
theorem Rs.place_inj (a : Rs) {m n : Int} (h0 : 0 ≤ m) (h1 : 0 ≤ n) (hm : a.has m = true) (hn : a.has n = true) (h : a.cnt m = a.cnt n) : m = n := by
  rcases Int.lt_trichotomy m n with l | l | l
  · have s := a.cnt_step h0
    rw [hm] at s
    have := a.cnt_mono (m := m + 1) (n := n) (by omega) (by omega)
    simp at s
    omega
  · exact l
  · have s := a.cnt_step h1
    rw [hn] at s
    have := a.cnt_mono (m := n + 1) (n := m) (by omega) (by omega)
    simp at s
    omega
/-- the next member -/
def Rs.Next (a : Rs) (n : Int) : Option Int → Prop
  | none => ∀ k, n ≤ k → a.has k = false
  | some r => n ≤ r ∧ a.has r = true ∧ ∀ k, n ≤ k → k < r → a.has k = false
theorem Rs.Next.uniq {n : Int} : ∀ {x y : Option Int}, a.Next n x → a.Next n y → x = y
  | none, none, _, _ => rfl
  | none, some r, h, k => by have := h r k.1; rw [k.2.1] at this; cases this
  | some r, none, k, h => by have := h r k.1; rw [k.2.1] at this; cases this
  | some r, some s, h, k => by
    rcases Int.lt_trichotomy r s with l | l | l
    · have := k.2.2 r h.1 l; rw [h.2.1] at this; cases this
    · rw [l]
    · have := h.2.2 s k.1 l; rw [k.2.1] at this; cases this
/-- the member of a place -/
def Rs.Nth (a : Rs) (k : Nat) : Option Int → Prop
  | none => ∀ r, 0 ≤ r → a.has r = true → a.cnt r ≠ k
  | some r => 0 ≤ r ∧ a.has r = true ∧ a.cnt r = k
theorem Rs.Nth.uniq {k : Nat} : ∀ {x y : Option Int}, a.Nth k x → a.Nth k y → x = y
  | none, none, _, _ => rfl
  | none, some r, h, k => absurd k.2.2 (h r k.1 k.2.1)
  | some r, none, k, h => absurd k.2.2 (h r k.1 k.2.1)
  | some r, some s, h, k => by rw [a.place_inj h.1 k.1 h.2.1 k.2.1 (h.2.2.trans k.2.2.symm)]
theorem Rs.nth_next {n : Int} (h0 : 0 ≤ n) : ∀ {x : Option Int}, a.Next n x → a.Nth (a.cnt n) x
  | none, h => fun r h1 h2 e => by
    have hr : r < n := by
      rcases Int.lt_or_le r n with l | l
      · exact l
      · have := h r l; rw [h2] at this; cases this
    have s := a.cnt_step h1
    rw [h2] at s
    have := a.cnt_mono (m := r + 1) (n := n) (by omega) (by omega)
    simp at s
    omega
  | some r, ⟨h1, h2, h3⟩ => ⟨by omega, h2, a.cnt_none h0 h1 h3⟩
end
end My


namespace My
theorem filt_get (p : Int → Bool) (s : Int) : ∀ (n i : Nat) (x : Int), ((rngI s n).filter p)[i]? = some x → s ≤ x ∧ x < s + n ∧ p x = true ∧ cntP p s (x - s).toNat = i
  | 0, i, x, h => by simp [rngI] at h
  | n + 1, i, x, h => by
    have e : rngI s (n + 1) = rngI s n ++ [s + (n : Int)] := by
      unfold rngI
      rw [List.range_succ, List.map_append]
      rfl
    rw [e, List.filter_append] at h
    by_cases hi : i < ((rngI s n).filter p).length
    · rw [List.getElem?_append_left hi] at h
      obtain ⟨h1, h2, h3, h4⟩ := filt_get p s n i x h
      exact ⟨h1, by omega, h3, h4⟩
    · rw [List.getElem?_append_right (by omega), cntP_rng] at h
      rw [cntP_rng] at hi
      cases hp : p (s + n) with
      | false =>
        rw [List.filter_cons_of_neg (by rw [hp]; decide)] at h
        simp at h
      | true =>
        rw [List.filter_cons_of_pos hp] at h
        have hz : i - cntP p s n = 0 := by
          have := (List.getElem?_eq_some_iff.mp h).1
          simp at this
          exact this
        rw [hz] at h
        simp at h
        subst h
        refine ⟨by omega, by omega, hp, ?_⟩
        rw [show (s + (n : Int) - s).toNat = n by omega]
        omega
theorem pairwise_rng (s : Int) : ∀ n : Nat, (rngI s n).Pairwise (· < ·)
  | 0 => List.Pairwise.nil
  | n + 1 => by
    have e : rngI s (n + 1) = rngI s n ++ [s + (n : Int)] := by
      unfold rngI
      rw [List.range_succ, List.map_append]
      rfl
    rw [e]
    refine List.pairwise_append.mpr ⟨pairwise_rng s n, by simp, fun x hx y hy => ?_⟩
    have := (mem_rngI.mp hx)
    have e : y = s + n := by simpa using hy
    omega
theorem filt_lt_len : ∀ {l : List Int}, l.Pairwise (· < ·) → ∀ (k : Nat) (x : Int), l[k]? = some x → (l.filter fun m => decide (m < x)).length = k
  | [], _, k, x, h => by simp at h
  | y :: l, hp, 0, x, h => by
    simp at h
    subst h
    rw [List.filter_eq_nil_iff.mpr fun m hm => ?_]
    · rfl
    · rcases List.mem_cons.mp hm with e | hm
      · simp [e]
      · have := List.rel_of_pairwise_cons hp hm
        simp
        omega
  | y :: l, hp, k + 1, x, h => by
    have h : l[k]? = some x := by simpa using h
    have := List.rel_of_pairwise_cons hp (List.mem_of_getElem? h)
    rw [List.filter_cons_of_pos (by simpa using this), List.length_cons, filt_lt_len hp.of_cons k x h]
theorem perm_of_nodup : ∀ {l m : List Int}, l.Nodup → m.Nodup → (∀ x, x ∈ l ↔ x ∈ m) → l.Perm m
  | [], m, _, _, h => by
    have : m = [] := List.eq_nil_iff_forall_not_mem.mpr fun x hx => by simpa using (h x).mpr hx
    subst this
    exact .nil
  | x :: l, m, hl, hm, h => by
    have hx : x ∈ m := (h x).mp (by simp)
    obtain ⟨m1, m2, rfl⟩ := List.append_of_mem hx
    have hm' : (m1 ++ m2).Nodup ∧ x ∉ m1 ++ m2 := by
      have := (List.perm_middle (a := x) (l₁ := m1) (l₂ := m2)).nodup_iff.mp hm
      exact ⟨this.of_cons, (List.nodup_cons.mp this).1⟩
    have ih := perm_of_nodup hl.of_cons hm'.1 fun y => by
      constructor
      · intro hy
        have : y ∈ m1 ++ x :: m2 := (h y).mp (List.mem_cons_of_mem _ hy)
        rcases List.mem_append.mp this with z | z
        · exact List.mem_append_left _ z
        · rcases List.mem_cons.mp z with e | z
          · subst e
            exact absurd hy (List.nodup_cons.mp hl).1
          · exact List.mem_append_right _ z
      · intro hy
        have : y ∈ x :: l := (h y).mpr (by
          rcases List.mem_append.mp hy with z | z
          · exact List.mem_append_left _ z
          · exact List.mem_append_right _ (List.mem_cons_of_mem _ z))
        rcases List.mem_cons.mp this with e | z
        · subst e
          exact absurd hy hm'.2
        · exact z
    exact (ih.cons x).trans List.perm_middle.symm
section
variable {a : Rs}
def Rs.rounds (a : Rs) : List Int := (rngI a.first a.turn.toNat).filter fun x => decide (x % a.turn ∈ a.rests)
theorem Rs.Wf.rounds_len (w : a.Wf) : a.rounds.length = a.rests.length := by
  unfold Rs.rounds
  rw [cntP_rng, w.win]
def Rs.nth (a : Rs) (k : Nat) : Option Int :=
  if k < a.few.length then a.few[k]? else if a.rests = [] then none else (a.rounds[(k - a.few.length) % a.rests.length]?).map fun x => x + ((k - a.few.length) / a.rests.length : Nat) * a.turn
theorem Rs.Wf.nth_ok (w : a.Wf) (k : Nat) : a.Nth k (a.nth k) := by
  unfold Rs.nth
  split
  · rename_i hk
    rw [List.getElem?_eq_getElem hk]
    have hx := w.fewIn a.few[k] (List.getElem_mem hk)
    refine ⟨hx.1, ?_, ?_⟩
    · rw [Rs.has_lo hx.2]
      exact decide_eq_true (List.getElem_mem hk)
    · rw [w.cnt_lo hx.1 (by omega)]
      exact filt_lt_len w.few k _ (List.getElem?_eq_getElem hk)
  · rename_i hk
    split
    · rename_i hr
      intro r h0 hh e
      have hlt : r < a.first := by
        rcases Int.lt_or_le r a.first with l | l
        · exact l
        · rw [Rs.has_hi l, hr] at hh
          simp at hh
      have s := a.cnt_step h0
      rw [hh] at s
      have := a.cnt_mono (m := r + 1) (n := a.first) (by omega) (by omega)
      rw [w.cnt_first] at this
      simp at s
      omega
    · rename_i hr
      have hL : 0 < a.rests.length := List.length_pos_iff.mpr hr
      have hi : (k - a.few.length) % a.rests.length < a.rounds.length := by rw [w.rounds_len]; exact Nat.mod_lt _ hL
      rw [List.getElem?_eq_getElem hi]
      have hg := List.getElem?_eq_getElem hi
      unfold Rs.rounds at hg
      obtain ⟨h1, h2, h3, h4⟩ := filt_get _ _ _ _ _ hg
      have ht := w.turn
      generalize hx : a.rounds[(k - a.few.length) % a.rests.length] = x at *
      have hx' : ((rngI a.first a.turn.toNat).filter fun x => decide (x % a.turn ∈ a.rests))[(k - a.few.length) % a.rests.length]'(hi) = x := hx
      rw [hx'] at h1 h2 h3 h4
      generalize hq : (k - a.few.length) / a.rests.length = q
      have hq0 : (0 : Int) ≤ q * a.turn := Int.mul_nonneg (by omega) (by omega)
      have hw := w.first
      refine ⟨by show 0 ≤ x + q * a.turn; omega, ?_, ?_⟩
      · show a.has (x + q * a.turn) = true
        rw [Rs.has_hi (by omega), Int.add_mul_emod_self_right]
        exact h3
      · show a.cnt (x + q * a.turn) = k
        have e : x + q * a.turn = a.first + q * a.turn + ((x - a.first).toNat : Int) := by omega
        have c : cntP (fun x => decide (x % a.turn ∈ a.rests)) (a.first + q * a.turn) (x - a.first).toNat = (k - a.few.length) % a.rests.length := by
          rw [← cntP_shift, ← h4]
          exact cntP_congr fun y _ _ => by rw [Int.add_mul_emod_self_right]
        rw [e, w.cnt_turns, c]
        have := Nat.div_add_mod (k - a.few.length) a.rests.length
        rw [hq, Nat.mul_comm] at this
        omega
theorem Rs.Wf.beg (w : a.Wf) {r : Int} (hr : r ∈ a.rests) : (a.first + (r - a.first) % a.turn) % a.turn = r := by
  have := w.restsIn r hr
  rw [Int.add_emod, Int.emod_emod_of_dvd _ (Int.dvd_refl _), ← Int.add_emod, show a.first + (r - a.first) = r by omega, Int.emod_eq_of_lt this.1 this.2]
theorem Rs.Wf.going (w : a.Wf) : sortI (a.rests.map fun r => a.first + (r - a.first) % a.turn) = a.rounds := by
  have ht := w.turn
  refine (sortI_eq ?_ ?_).symm
  · refine (perm_of_nodup ?_ ?_ ?_).symm
    · refine (List.pairwise_map.mpr ((List.Pairwise.imp_of_mem (fun {x y} hx hy h => ?_) (nodup_of_lt w.rests))))
      intro e
      have e2 := congrArg (· % a.turn) e
      simp only [w.beg hx, w.beg hy] at e2
      exact h e2
    · exact (nodup_of_lt (pairwise_rng _ _)).filter _
    · intro x
      unfold Rs.rounds
      simp only [List.mem_map, List.mem_filter, mem_rngI, decide_eq_true_eq]
      constructor
      · rintro ⟨r, hr, rfl⟩
        have h1 := Int.emod_nonneg (r - a.first) (by omega : a.turn ≠ 0)
        have h2 := Int.emod_lt_of_pos (r - a.first) ht
        exact ⟨by omega, by rw [w.beg hr]; exact hr⟩
      · rintro ⟨⟨h1, h2⟩, h3⟩
        refine ⟨x % a.turn, h3, ?_⟩
        rw [Int.sub_emod, Int.emod_emod_of_dvd _ (Int.dvd_refl _), ← Int.sub_emod, Int.emod_eq_of_lt (by omega) (by omega)]
        omega
  · exact ((pairwise_rng _ _).filter _).imp fun h => by omega
theorem ediv_pred {m t : Int} (ht : 0 < t) (hm : 1 ≤ m) : m / t = (m - 1) / t + if m % t = 0 then 1 else 0 := by
  have e := Int.emod_add_mul_ediv m t
  have h1 := Int.emod_nonneg m (by omega : t ≠ 0)
  have h2 := Int.emod_lt_of_pos m ht
  generalize m % t = y at *
  generalize m / t = q at *
  split
  · rename_i hy
    have e2 : m - 1 = (t - 1) + t * (q - 1) := by rw [Int.mul_sub]; omega
    rw [e2, Int.add_mul_ediv_left _ _ (by omega), Int.ediv_eq_zero_of_lt (by omega) (by omega)]
    omega
  · rename_i hy
    have e2 : m - 1 = (y - 1) + t * q := by omega
    rw [e2, Int.add_mul_ediv_left _ _ (by omega), Int.ediv_eq_zero_of_lt (by omega) (by omega)]
    omega
/-- members of one rest below n -/
def Rs.part (a : Rs) (n r : Int) : Int := if a.first + (r - a.first) % a.turn < n then (n - 1 - (a.first + (r - a.first) % a.turn)) / a.turn + 1 else 0
theorem Rs.Wf.part_cnt (w : a.Wf) {r : Int} (hr : r ∈ a.rests) : ∀ j : Nat, a.part (a.first + j) r = (cntP (fun x => decide (x % a.turn = r)) a.first j : Nat)
  | 0 => by
    have h1 := Int.emod_nonneg (r - a.first) (by have := w.turn; omega : a.turn ≠ 0)
    unfold Rs.part
    rw [if_neg (by omega)]
    rfl
  | j + 1 => by
    have ht := w.turn
    have h1 := Int.emod_nonneg (r - a.first) (by omega : a.turn ≠ 0)
    have h2 := Int.emod_lt_of_pos (r - a.first) ht
    have hb := w.beg hr
    have ih := w.part_cnt hr j
    show _ = ((cntP (fun x => decide (x % a.turn = r)) a.first j + (if decide ((a.first + (j : Int)) % a.turn = r) = true then 1 else 0) : Nat) : Int)
    conv => rhs; rw [Int.natCast_add, ← ih]
    have iff : (a.first + (j : Int)) % a.turn = r ↔ ((j : Int) - (r - a.first) % a.turn) % a.turn = 0 := by
      conv => lhs; rhs; rw [← hb]
      rw [Int.emod_eq_emod_iff_emod_sub_eq_zero, show a.first + (j : Int) - (a.first + (r - a.first) % a.turn) = (j : Int) - (r - a.first) % a.turn by omega]
    simp only [decide_eq_true_eq, iff]
    unfold Rs.part
    generalize (r - a.first) % a.turn = b at *
    rcases Int.lt_trichotomy (j : Int) b with l | l | l
    · rw [if_neg (by omega), if_neg (by omega), if_neg]
      · rfl
      · intro z
        rw [← Int.add_emod_right, Int.emod_eq_of_lt (by omega) (by omega)] at z
        omega
    · rw [if_pos (by omega), if_neg (by omega), if_pos (by rw [show (j : Int) - b = 0 by omega]; rfl), show a.first + ((j + 1 : Nat) : Int) - 1 - (a.first + b) = 0 by omega, Int.zero_ediv]
      rfl
    · have := ediv_pred ht (m := (j : Int) - b) (by omega)
      rw [if_pos (by omega), if_pos (by omega), show a.first + ((j + 1 : Nat) : Int) - 1 - (a.first + b) = (j : Int) - b by omega, show a.first + (j : Int) - 1 - (a.first + b) = (j : Int) - b - 1 by omega, this]
      split <;> simp <;> omega
theorem sum_cnt {t : Int} : ∀ (rs : List Int) (s : Int) (n : Nat), rs.Nodup → ((rs.map fun r => (cntP (fun x => decide (x % t = r)) s n : Int)).sum) = (cntP (fun x => decide (x % t ∈ rs)) s n : Nat)
  | [], s, n, _ => by
    have : ∀ n, cntP (fun x => decide (x % t ∈ ([] : List Int))) s n = 0 := by
      intro n
      induction n with
      | zero => rfl
      | succ n ih =>
        show cntP _ s n + _ = 0
        rw [ih]
        simp
    rw [this]
    rfl
  | r :: rs, s, n, h => by
    rw [List.map_cons, List.sum_cons, sum_cnt rs s n h.of_cons]
    have nr := (List.nodup_cons.mp h).1
    have : ∀ n, cntP (fun x => decide (x % t ∈ r :: rs)) s n = cntP (fun x => decide (x % t = r)) s n + cntP (fun x => decide (x % t ∈ rs)) s n := by
      intro n
      induction n with
      | zero => rfl
      | succ n ih =>
        show cntP _ s n + _ = (cntP _ s n + _) + (cntP _ s n + _)
        rw [ih]
        by_cases e : (s + (n : Int)) % t = r
        · have : (s + (n : Int)) % t ∉ rs := by rw [e]; exact nr
          simp only [e, List.mem_cons, true_or, decide_true, if_true]
          rw [e] at this
          simp [this]
          omega
        · simp only [List.mem_cons, e, false_or, decide_false]
          simp
          omega
    rw [this]
    omega
/-- the program's sum is the count -/
theorem Rs.Wf.cnt_sum (w : a.Wf) {n : Int} (h : a.first ≤ n) : (a.cnt n : Int) = a.few.length + (a.rests.map fun r => a.part n r).sum := by
  rw [w.cnt_hi h, Int.natCast_add, ← sum_cnt a.rests a.first _ (nodup_of_lt w.rests)]
  congr 2
  refine List.map_congr_left fun r hr => ?_
  rw [← w.part_cnt hr, show a.first + ((n - a.first).toNat : Int) = n by omega]
end
end My


namespace My
open PySem PySem.Spec PyProof.Rows L2
/-! ### the one form of a round set -/
/-- who goes round -/
def Rs.P (a : Rs) (n : Int) : Bool := decide (n % a.turn ∈ a.rests)
def Per (p : Int → Bool) (t : Int) : Prop := ∀ n, p (n + t) = p n
theorem Per.mul {p : Int → Bool} {t : Int} (h : Per p t) : ∀ k : Nat, Per p (t * k)
  | 0 => fun n => by rw [show n + t * ((0 : Nat) : Int) = n by simp]
  | k + 1 => fun n => by
    rw [show n + t * ((k + 1 : Nat) : Int) = (n + t * (k : Int)) + t by rw [Int.natCast_add, Int.mul_add]; simp; omega, h, Per.mul h k]
theorem Per.neg {p : Int → Bool} {t : Int} (h : Per p t) : Per p (-t) := fun n => by
  have := h (n + -t)
  rw [show n + -t + t = n by omega] at this
  exact this.symm
theorem Per.add {p : Int → Bool} {s t : Int} (h : Per p s) (h2 : Per p t) : Per p (s + t) := fun n => by rw [← Int.add_assoc, h2, h]
theorem Per.gcd {p : Int → Bool} : ∀ (m n : Nat), Per p (m : Int) → Per p (n : Int) → Per p (Nat.gcd m n : Nat) := fun m n => by
  induction m, n using Nat.gcd.induction with
  | H0 n => intro _ h; rw [Nat.gcd_zero_left]; exact h
  | H1 m n hm ih =>
    intro h1 h2
    rw [Nat.gcd_rec]
    refine ih ?_ h1
    have e : ((n % m : Nat) : Int) = (n : Int) + -((m : Int) * ((n / m : Nat) : Int)) := by
      have := Nat.mod_add_div n m
      have e2 : ((n % m : Nat) : Int) + (m : Int) * ((n / m : Nat) : Int) = (n : Int) := by
        rw [← Int.natCast_mul, ← Int.natCast_add, this]
      omega
    rw [e]
    exact h2.add (h1.mul (n / m)).neg
theorem Rs.perP (a : Rs) : Per a.P a.turn := fun n => by
  unfold Rs.P
  rw [Int.add_emod_right]
structure Rs.Canon (a : Rs) : Prop where
  wf : a.Wf
  turn : ∀ d, 0 < d → d < a.turn → a.turn % d = 0 → ¬ Per a.P d
  first : 0 < a.first → decide (a.first - 1 ∈ a.few) ≠ a.P (a.first - 1)
theorem per_same {p q : Int → Bool} {s t f : Int} (hs : 0 < s) (ht : 0 < t) (h1 : Per p s) (h2 : Per q t) (h : ∀ n, f ≤ n → 0 ≤ n → p n = q n) : ∀ n, p n = q n := fun n => by
  have a1 : Per p (s * t * (n.natAbs + f.natAbs : Nat)) := by
    have z := h1.mul t.toNat
    rw [show ((t.toNat : Nat) : Int) = t by omega] at z
    exact z.mul _
  have a2 : Per q (s * t * (n.natAbs + f.natAbs : Nat)) := by
    have z := h2.mul s.toNat
    rw [show ((s.toNat : Nat) : Int) = s by omega, Int.mul_comm] at z
    exact z.mul _
  have b : (1 : Int) ≤ s * t := Int.mul_pos hs ht
  have c : ((n.natAbs + f.natAbs : Nat) : Int) ≤ s * t * (n.natAbs + f.natAbs : Nat) := by
    have := Int.mul_le_mul_of_nonneg_right b (Int.natCast_nonneg (n.natAbs + f.natAbs))
    rw [Int.one_mul] at this
    exact this
  rw [← a1 n, ← a2 n]
  refine h _ ?_ ?_ <;> omega
theorem Rs.Wf.mem_rests {a : Rs} (w : a.Wf) {r : Int} : r ∈ a.rests ↔ 0 ≤ r ∧ r < a.turn ∧ a.P r = true := by
  unfold Rs.P
  rw [decide_eq_true_eq]
  constructor
  · intro h
    have := w.restsIn r h
    refine ⟨this.1, this.2, ?_⟩
    rw [Int.emod_eq_of_lt this.1 this.2]
    exact h
  · rintro ⟨h1, h2, h3⟩
    rw [Int.emod_eq_of_lt h1 h2] at h3
    exact h3
theorem Rs.Wf.mem_few {a : Rs} (w : a.Wf) {k : Int} : k ∈ a.few ↔ 0 ≤ k ∧ k < a.first ∧ a.has k = true := by
  constructor
  · intro h
    have := w.fewIn k h
    exact ⟨this.1, this.2, by rw [Rs.has_lo this.2]; exact decide_eq_true h⟩
  · rintro ⟨h1, h2, h3⟩
    rw [Rs.has_lo h2] at h3
    exact of_decide_eq_true h3
theorem Rs.hasP {a : Rs} {n : Int} (h : a.first ≤ n) : a.has n = a.P n := Rs.has_hi h
theorem canon_le {a b : Rs} (ca : a.Canon) (cb : b.Canon) (h : ∀ n, a.P n = b.P n) : a.turn ≤ b.turn := by
  have ta := ca.wf.turn
  have tb := cb.wf.turn
  have pa : Per a.P (a.turn.toNat : Int) := by rw [show ((a.turn.toNat : Nat) : Int) = a.turn by omega]; exact a.perP
  have pb : Per a.P (b.turn.toNat : Int) := by
    rw [show ((b.turn.toNat : Nat) : Int) = b.turn by omega]
    intro n
    rw [h, h]
    exact b.perP n
  have g := Per.gcd _ _ pa pb
  have g1 := Nat.gcd_dvd_left a.turn.toNat b.turn.toNat
  have g2 : Nat.gcd a.turn.toNat b.turn.toNat ≤ b.turn.toNat := Nat.le_of_dvd (by omega) (Nat.gcd_dvd_right _ _)
  have g0 : 0 < Nat.gcd a.turn.toNat b.turn.toNat := Nat.gcd_pos_of_pos_left _ (by omega)
  by_cases e : (Nat.gcd a.turn.toNat b.turn.toNat : Int) < a.turn
  · refine absurd g (ca.turn _ (by omega) e ?_)
    obtain ⟨k, hk⟩ := g1
    have : a.turn = (Nat.gcd a.turn.toNat b.turn.toNat : Int) * (k : Int) := by
      rw [← Int.natCast_mul, ← hk]
      omega
    exact Int.emod_eq_zero_of_dvd ⟨_, this⟩
  · omega
theorem Rs.Canon.uniq {a b : Rs} (ca : a.Canon) (cb : b.Canon) (h : ∀ n, 0 ≤ n → a.has n = b.has n) : a = b := by
  have hP : ∀ n, a.P n = b.P n := per_same (f := a.first + b.first) ca.wf.turn cb.wf.turn a.perP b.perP fun n h1 h0 => by
    have := ca.wf.first
    have := cb.wf.first
    rw [← Rs.hasP (a := a) (by omega), ← Rs.hasP (a := b) (by omega)]
    exact h n h0
  have et : a.turn = b.turn := Int.le_antisymm (canon_le ca cb hP) (canon_le cb ca fun n => (hP n).symm)
  have er : a.rests = b.rests := lt_uniq ca.wf.rests cb.wf.rests fun k => by rw [ca.wf.mem_rests, cb.wf.mem_rests, et, hP]
  have le : ∀ {a b : Rs}, a.Canon → b.Canon → (∀ n, 0 ≤ n → a.has n = b.has n) → (∀ n, a.P n = b.P n) → b.first ≤ a.first := by
    intro a b ca cb h hP
    have := ca.wf.first
    by_cases e : a.first < b.first
    · have c := cb.first (by omega)
      have z := h (b.first - 1) (by omega)
      rw [Rs.hasP (a := a) (by omega), Rs.has_lo (a := b) (by omega), hP] at z
      exact absurd z.symm c
    · omega
  have ef : a.first = b.first := Int.le_antisymm (le cb ca (fun n h0 => (h n h0).symm) fun n => (hP n).symm) (le ca cb h hP)
  have ew : a.few = b.few := lt_uniq ca.wf.few cb.wf.few fun k => by
    rw [ca.wf.mem_few, cb.wf.mem_few, ef]
    constructor
    · rintro ⟨h0, h1, h2⟩
      exact ⟨h0, h1, (h k h0) ▸ h2⟩
    · rintro ⟨h0, h1, h2⟩
      exact ⟨h0, h1, (h k h0).symm ▸ h2⟩
  cases a
  cases b
  simp only at et er ef ew
  subst et er ef ew
  rfl
/-- no member at all -/
def noneR : Rs := ⟨[], 0, 1, []⟩
theorem noneR_canon : noneR.Canon := ⟨⟨by decide, by decide, by decide, by decide, by decide, by decide⟩, fun d h1 h2 _ => by have : noneR.turn = 1 := rfl; omega, fun h => by cases h⟩
theorem noneR_has (n : Int) : noneR.has n = false := by
  unfold Rs.has noneR
  simp
/-- a set that ends -/
theorem canon_fin {few : List Int} {first : Int} (hw : few.Pairwise (· < ·)) (hi : ∀ m ∈ few, 0 ≤ m ∧ m < first) (h0 : 0 ≤ first) (hl : 0 < first → first - 1 ∈ few) : (⟨few, first, 1, []⟩ : Rs).Canon :=
  ⟨⟨hw, hi, h0, by show (0 : Int) < 1; decide, List.Pairwise.nil, fun r h => by cases h⟩, fun d h1 h2 _ => by
    have h2 : d < 1 := h2
    omega, fun h => by
    have z : decide (first - 1 ∈ few) = true := decide_eq_true (hl h)
    show decide (first - 1 ∈ few) ≠ decide ((first - 1) % 1 ∈ ([] : List Int))
    rw [z]
    simp⟩
end My


namespace My
open PySem PySem.Spec PyProof.Rows L2
theorem fSet_tup (ns : List Int) (st : Sto) : fSet [.tup (ns.map D.int)] st = if ns.length < 4000 then some (.set ns, st) else none := by
  show ((some (ns.map D.int)).bind fun es => (intsOf es).bind fun ns => if ns.length < 4000 then some (D.set ns, st) else none) = _
  rw [b_some, intsOf_map, b_some]
theorem fSet_lst (ns : List Int) (st : Sto) : fSet [.lst (ns.map D.int)] st = if ns.length < 4000 then some (.set ns, st) else none := fSet_tup ns st
theorem fInS_int (neg : Bool) (k : Int) (ns : List Int) (st : Sto) : fInS neg (.int k) (.set ns) st = some (.bl (if neg then !decide (k ∈ ns) else decide (k ∈ ns)), st) := rfl
theorem fSortS_set (ns : List Int) (st : Sto) : fSortS [.set ns] st = some (.lst ((sU ns).map D.int), st) := rfl
theorem fAll_lst (bs : List Bool) (st : Sto) : fAll [.lst (bs.map D.bl)] st = some (.bl (bs.all id), st) := by
  show ((some (bs.map D.bl)).bind fun es => (boolsOf es).map fun ns => (D.bl (ns.all id), st)) = _
  rw [b_some, boolsOf_map, m_some]
theorem z0 : (0 ≤ PySem.sizeLine) = True := eq_true (szle (by decide))
theorem z1 : (1 ≤ PySem.sizeLine) = True := eq_true (szle (by decide))
theorem z2 : (2 ≤ PySem.sizeLine) = True := eq_true (szle (by decide))
theorem z3 : (3 ≤ PySem.sizeLine) = True := eq_true (szle (by decide))
theorem z4 : (4 ≤ PySem.sizeLine) = True := eq_true (szle (by decide))
theorem z5 : (5 ≤ PySem.sizeLine) = True := eq_true (szle (by decide))
theorem z6 : (6 ≤ PySem.sizeLine) = True := eq_true (szle (by decide))
theorem z7 : (7 ≤ PySem.sizeLine) = True := eq_true (szle (by decide))
theorem z8 : (8 ≤ PySem.sizeLine) = True := eq_true (szle (by decide))
theorem z9 : (9 ≤ PySem.sizeLine) = True := eq_true (szle (by decide))
theorem fAdd_lsts {xs ys : List D} {st : Sto} (h : xs.length + ys.length < 10000000) : fAdd false (.lst xs) (.lst ys) st = some (.lst (xs ++ ys), st) := by
  rw [fAdd_lst, if_pos (szle h)]
  rfl
theorem mDef_new {N n : Nat} {b : MS} {ds : List D} {st st' s : Sto} {d d' : D} (hl : ds.length = n) (h : b (ds.map some ++ List.replicate (N - ds.length) none) st = some (.rt d, st')) (hs : My.settle st d st' = (d', s)) : mDef N n b ds st = some (d', s) := by
  unfold mDef
  rw [if_pos hl, h]
  show some (My.settle st d st') = _
  rw [hs]
theorem settle_new {d : D} {st st' : Sto} (h : ¬ st'.length ≤ st.length) (hc : clo st.length d = false) : My.settle st d st' = (d, st') := by
  unfold My.settle
  rw [if_neg h, if_neg (by rintro ⟨h, _⟩; rw [hc] at h; cases h)]
theorem settle_any (st st' : Sto) (d : D) : ∃ x, My.settle st d st' = (d, x) := by
  unfold My.settle
  split
  · exact ⟨_, rfl⟩
  · split
    · exact ⟨_, rfl⟩
    · exact ⟨_, rfl⟩
theorem rngI_succ (lo : Int) (n : Nat) : rngI lo (n + 1) = rngI lo n ++ [lo + n] := by
  unfold rngI
  rw [List.range_succ, List.map_append]
  rfl
theorem rngI_lt (lo : Int) : ∀ n : Nat, (rngI lo n).Pairwise (· < ·)
  | 0 => List.Pairwise.nil
  | n + 1 => by
    rw [rngI_succ]
    refine List.pairwise_append.mpr ⟨rngI_lt lo n, List.pairwise_singleton _ _, fun a ha b hb => ?_⟩
    have := (mem_rngI.mp ha).2
    have e := List.mem_singleton.mp hb
    omega
/-! ### the form of what is handed to formed -/
/-- its rests shifted stay in it -/
def Rs.reg (a : Rs) (d : Int) : Bool := (a.rests.map fun r => decide ((r + d) % a.turn ∈ a.rests)).all id
theorem Rs.reg_per {a : Rs} (w : a.Wf) {d : Int} (hd : 0 < d) : a.reg d = true ↔ Per a.P d := by
  have ht := w.turn
  have key : a.reg d = true ↔ ∀ r ∈ a.rests, (r + d) % a.turn ∈ a.rests := by
    unfold Rs.reg
    rw [List.all_map, List.all_eq_true]
    constructor
    · intro h r hr
      exact of_decide_eq_true (h r hr)
    · intro h r hr
      exact decide_eq_true (h r hr)
  rw [key]
  constructor
  · intro h
    have fw : ∀ n, a.P n = true → a.P (n + d) = true := by
      intro n hn
      unfold Rs.P at hn ⊢
      have z := h _ (of_decide_eq_true hn)
      rw [Int.emod_add_emod] at z
      exact decide_eq_true z
    have fk : ∀ (k : Nat) n, a.P n = true → a.P (n + d * k) = true := by
      intro k
      induction k with
      | zero => intro n hn; simpa using hn
      | succ k ih =>
        intro n hn
        have z := fw _ (ih n hn)
        rw [show n + d * ((k + 1 : Nat) : Int) = n + d * (k : Int) + d by rw [Int.natCast_add, Int.mul_add]; simp; omega]
        exact z
    intro n
    cases h1 : a.P n with
    | true => exact fw n h1
    | false =>
      cases h2 : a.P (n + d) with
      | false => rfl
      | true =>
        have z := fk (a.turn.toNat - 1) (n + d) h2
        have e : n + d + d * ((a.turn.toNat - 1 : Nat) : Int) = n + a.turn * (d.toNat : Nat) := by
          have e1 : ((a.turn.toNat - 1 : Nat) : Int) = a.turn - 1 := by omega
          have e2 : ((d.toNat : Nat) : Int) = d := by omega
          rw [e1, e2, Int.mul_sub, Int.mul_one, Int.mul_comm a.turn d]
          omega
        rw [e, a.perP.mul d.toNat, h1] at z
        cases z
  · intro h r hr
    have z : a.P (r + d) = true := by
      rw [h r]
      exact (w.mem_rests.mp hr).2.2
    exact of_decide_eq_true z
/-- what formed gives -/
theorem Rs.per_any {a : Rs} {d : Int} (h : Per a.P d) {m n : Int} (e : m % d = n % d) (hd : 0 < d) : a.P m = a.P n := by
  have e1 := Int.mul_ediv_add_emod m d
  have e2 := Int.mul_ediv_add_emod n d
  have e3 : m = n + d * (m / d - n / d) := by
    rw [Int.mul_sub]
    omega
  by_cases c : n / d ≤ m / d
  · have z := h.mul (m / d - n / d).toNat n
    rw [show (((m / d - n / d).toNat : Nat) : Int) = m / d - n / d by omega, ← e3] at z
    exact z
  · have z := h.mul (n / d - m / d).toNat m
    rw [show (((n / d - m / d).toNat : Nat) : Int) = n / d - m / d by omega] at z
    rw [← z]
    congr 1
    rw [Int.mul_sub]
    rw [Int.mul_sub] at e3
    omega
def Rs.shr (a : Rs) (d f : Int) : Rs := ⟨a.few.filter fun m => decide (m < f), f, d, sU (a.rests.map fun r => r % d)⟩
theorem Rs.shr_P {a : Rs} (w : a.Wf) {d f : Int} (hd : 0 < d) (hm : a.turn % d = 0) (h : Per a.P d) (n : Int) : (a.shr d f).P n = a.P n := by
  show decide (n % d ∈ sU (a.rests.map fun r => r % d)) = _
  have ht := w.turn
  cases hp : a.P n with
  | true =>
    refine decide_eq_true (mem_sU.mpr (List.mem_map.mpr ⟨n % a.turn, of_decide_eq_true hp, ?_⟩))
    exact Int.emod_emod_of_dvd n (Int.dvd_of_emod_eq_zero hm)
  | false =>
    refine decide_eq_false fun z => ?_
    obtain ⟨r, hr, e⟩ := List.mem_map.mp (mem_sU.mp z)
    have := Rs.per_any h e hd
    rw [hp, (w.mem_rests.mp hr).2.2] at this
    cases this
theorem Rs.shr_ok {a : Rs} (w : a.Wf) {d f : Int} (hd : 0 < d) (hm : a.turn % d = 0) (h : Per a.P d) (hmin : ∀ c, 0 < c → c < d → a.turn % c = 0 → ¬ Per a.P c) (f0 : 0 ≤ f) (ff : f ≤ a.first)
    (fm : ∀ n, f ≤ n → n < a.first → decide (n ∈ a.few) = a.P n) (fe : 0 < f → decide (f - 1 ∈ a.few) ≠ a.P (f - 1)) : (a.shr d f).Canon ∧ ∀ n, 0 ≤ n → (a.shr d f).has n = a.has n := by
  have hP := Rs.shr_P (f := f) w hd hm h
  have dt : d ∣ a.turn := Int.dvd_of_emod_eq_zero hm
  refine ⟨⟨⟨w.few.filter _, fun m hm => ?_, f0, hd, sU_lt _, fun r hr => ?_⟩, fun c c0 c1 c2 hc => ?_, fun f1 => ?_⟩, fun n h0 => ?_⟩
  · obtain ⟨h1, h2⟩ := List.mem_filter.mp hm
    exact ⟨(w.fewIn m h1).1, of_decide_eq_true h2⟩
  · obtain ⟨q, _, rfl⟩ := List.mem_map.mp (mem_sU.mp hr)
    exact ⟨Int.emod_nonneg _ (by show d ≠ 0; omega), Int.emod_lt_of_pos _ hd⟩
  · refine hmin c c0 c1 ?_ fun n => ?_
    · exact Int.emod_eq_zero_of_dvd (Int.dvd_trans (Int.dvd_of_emod_eq_zero c2) dt)
    · rw [← hP, ← hP]
      exact hc n
  · show decide (f - 1 ∈ a.few.filter fun m => decide (m < f)) ≠ _
    rw [show (a.shr d f).first = f from rfl, hP]
    have e : decide (f - 1 ∈ a.few.filter fun m => decide (m < f)) = decide (f - 1 ∈ a.few) := decide_eq_decide.mpr (by
      rw [List.mem_filter]
      constructor
      · exact fun h => h.1
      · exact fun h => ⟨h, decide_eq_true (by omega)⟩)
    rw [e]
    exact fe f1
  · by_cases c : n < f
    · rw [Rs.has_lo (a := a.shr d f) c, Rs.has_lo (a := a) (by omega)]
      exact decide_eq_decide.mpr (by
        show n ∈ a.few.filter (fun m => decide (m < f)) ↔ _
        rw [List.mem_filter]
        constructor
        · exact fun h => h.1
        · exact fun h => ⟨h, decide_eq_true c⟩)
    · rw [Rs.hasP (a := a.shr d f) (by show f ≤ n; omega), hP]
      by_cases c2 : n < a.first
      · rw [Rs.has_lo c2]
        exact (fm n (by omega) c2).symm
      · rw [Rs.hasP (by omega)]
def Rs.lb (a : Rs) (m : Int) : List Int := (a.few.filter fun k => decide (k < m)) ++ (rngI a.first (m - a.first).toNat).filter fun n => decide (n % a.turn ∈ a.rests)
theorem Rs.mem_lb (a : Rs) (w : a.Wf) {m k : Int} : k ∈ a.lb m ↔ 0 ≤ k ∧ k < m ∧ a.has k = true := by
  have f0 := w.first
  unfold Rs.lb
  rw [List.mem_append, List.mem_filter, List.mem_filter, mem_rngI, decide_eq_true_eq]
  constructor
  · rintro (⟨h1, h2⟩ | ⟨⟨h1, h2⟩, h3⟩)
    · have z := w.mem_few.mp h1
      exact ⟨z.1, h2, z.2.2⟩
    · exact ⟨by omega, by omega, (Rs.hasP h1).trans h3⟩
  · rintro ⟨h1, h2, h3⟩
    by_cases c : k < a.first
    · exact .inl ⟨w.mem_few.mpr ⟨h1, c, h3⟩, h2⟩
    · exact .inr ⟨⟨by omega, by omega⟩, (Rs.hasP (a := a) (by omega)).symm.trans h3⟩
theorem Rs.lb_lt (a : Rs) (w : a.Wf) (m : Int) : (a.lb m).Pairwise (· < ·) := by
  refine List.pairwise_append.mpr ⟨w.few.filter _, (rngI_lt _ _).filter _, fun x hx y hy => ?_⟩
  have h1 := w.fewIn x (List.mem_filter.mp hx).1
  have h2 := mem_rngI.mp (List.mem_filter.mp hy).1
  omega
theorem lens {a : Rs} (w : a.Wf) : a.rests.length ≤ a.turn.toNat := by
  have := cntP_le (fun x => decide (x % a.turn ∈ a.rests)) 0 a.turn.toNat
  rwa [w.win] at this
theorem fewlen {a : Rs} (w : a.Wf) : a.few.length ≤ a.first.toNat := by
  rw [← w.cnt_first]
  exact cntP_le _ _ _
theorem len_lt : ∀ {l : List Int} {lo hi : Int}, l.Pairwise (· < ·) → (∀ k ∈ l, lo ≤ k ∧ k < hi) → l.length ≤ (hi - lo).toNat
  | [], _, _, _, _ => Nat.zero_le _
  | x :: l, lo, hi, h, hb => by
    obtain ⟨h1, h2⟩ := List.pairwise_cons.mp h
    have b := hb x (List.mem_cons_self ..)
    have ih := len_lt (lo := x + 1) (hi := hi) h2 fun k hk => by
      have := h1 k hk
      have := hb k (List.mem_cons_of_mem _ hk)
      omega
    rw [List.length_cons]
    omega
theorem Rs.lb_len (a : Rs) (w : a.Wf) (m : Int) : (a.lb m).length ≤ m.toNat := by
  have := len_lt (lo := 0) (hi := m) (a.lb_lt w m) fun k hk => by
    have := (a.mem_lb w).mp hk
    omega
  omega
end My


namespace My
open PySem PySem.Spec PyProof.Rows L2
/-- of a row of truths that goes round from f on -/
def winR (T : Int → Bool) (f t : Int) : Rs := ⟨(rngI 0 f.toNat).filter T, f, t, sortI (((rngI f t.toNat).filter T).map fun n => n % t)⟩
theorem far_per {T : Int → Bool} {f t : Int} (ht : 0 < t) (h : ∀ n, f ≤ n → T (n + t) = T n) : ∀ (k : Nat) n, f ≤ n → T (n + t * k) = T n
  | 0, n, _ => by simp
  | k + 1, n, hn => by
    rw [show n + t * ((k + 1 : Nat) : Int) = n + t * (k : Int) + t by rw [Int.natCast_add, Int.mul_add]; simp; omega, h _ (by have := Int.mul_nonneg (Int.le_of_lt ht) (Int.natCast_nonneg k); omega), far_per ht h k n hn]
theorem far_same {T : Int → Bool} {f t : Int} (ht : 0 < t) (h : ∀ n, f ≤ n → T (n + t) = T n) {m n : Int} (hm : f ≤ m) (hn : f ≤ n) (e : m % t = n % t) : T m = T n := by
  have e1 := Int.mul_ediv_add_emod m t
  have e2 := Int.mul_ediv_add_emod n t
  have e3 : m = n + t * (m / t - n / t) := by
    rw [Int.mul_sub]
    omega
  by_cases c : n / t ≤ m / t
  · have z := far_per ht h (m / t - n / t).toNat n hn
    rw [show (((m / t - n / t).toNat : Nat) : Int) = m / t - n / t by omega, ← e3] at z
    exact z
  · have z := far_per ht h (n / t - m / t).toNat m hm
    rw [show (((n / t - m / t).toNat : Nat) : Int) = n / t - m / t by omega] at z
    rw [← z]
    congr 1
    rw [Int.mul_sub]
    rw [Int.mul_sub] at e3
    omega
theorem emod_win {f t m n : Int} (ht : 0 < t) (h1 : f ≤ m) (h2 : m < f + t) (h3 : f ≤ n) (h4 : n < f + t) (e : m % t = n % t) : m = n := by
  have e1 := Int.mul_ediv_add_emod m t
  have e2 := Int.mul_ediv_add_emod n t
  have e3 : m - n = t * (m / t - n / t) := by
    rw [Int.mul_sub]
    omega
  by_cases c : m / t - n / t = 0
  · rw [c, Int.mul_zero] at e3
    omega
  · by_cases c2 : 0 < m / t - n / t
    · have := Int.mul_le_mul_of_nonneg_left (show (1 : Int) ≤ m / t - n / t by omega) (Int.le_of_lt ht)
      omega
    · have := Int.mul_le_mul_of_nonneg_left (show m / t - n / t ≤ (-1 : Int) by omega) (Int.le_of_lt ht)
      omega
/-- in every window stands one number of each rest -/
theorem win_rep {f t : Int} (ht : 0 < t) (n : Int) : ∃ m, f ≤ m ∧ m < f + t ∧ m % t = n % t := by
  refine ⟨f + (n - f) % t, ?_, ?_, ?_⟩
  · have := Int.emod_nonneg (n - f) (show t ≠ 0 by omega)
    omega
  · have := Int.emod_lt_of_pos (n - f) ht
    omega
  · rw [Int.add_emod_emod]
    congr 1
    omega
theorem winR_rests {T : Int → Bool} {f t : Int} (ht : 0 < t) {r : Int} : r ∈ (winR T f t).rests ↔ ∃ m, f ≤ m ∧ m < f + t ∧ T m = true ∧ m % t = r := by
  show r ∈ sortI _ ↔ _
  rw [(sortI_perm _).mem_iff, List.mem_map]
  constructor
  · rintro ⟨m, hm, e⟩
    obtain ⟨h1, h2⟩ := List.mem_filter.mp hm
    have := mem_rngI.mp h1
    exact ⟨m, by omega, by omega, h2, e⟩
  · rintro ⟨m, h1, h2, h3, e⟩
    exact ⟨m, List.mem_filter.mpr ⟨mem_rngI.mpr (by omega), h3⟩, e⟩
theorem winR_wf {T : Int → Bool} {f t : Int} (hf : 0 ≤ f) (ht : 0 < t) : (winR T f t).Wf := by
  refine ⟨(rngI_lt _ _).filter _, fun m hm => ?_, hf, ht, ?_, fun r hr => ?_⟩
  · have := mem_rngI.mp (List.mem_filter.mp hm).1
    show 0 ≤ m ∧ m < f
    omega
  · refine lt_of_le_nodup _ (sortI_pair _) ((sortI_perm _).nodup_iff.mpr ?_)
    refine List.pairwise_map.mpr ?_
    have hs := (rngI_lt f t.toNat).filter T
    refine List.Pairwise.imp_of_mem (fun {x y} hx hy hxy => ?_) hs
    have h1 := mem_rngI.mp (List.mem_filter.mp hx).1
    have h2 := mem_rngI.mp (List.mem_filter.mp hy).1
    intro e
    have := emod_win (f := f) ht (by omega) (by omega) (by omega) (by omega) e
    omega
  · obtain ⟨m, _, _, _, rfl⟩ := (winR_rests ht).mp hr
    exact ⟨Int.emod_nonneg _ (by show t ≠ 0; omega), Int.emod_lt_of_pos _ ht⟩
theorem winR_P {T : Int → Bool} {f t : Int} (ht : 0 < t) (h : ∀ n, f ≤ n → T (n + t) = T n) {n : Int} (hn : f ≤ n) : (winR T f t).P n = T n := by
  show decide (n % t ∈ (winR T f t).rests) = _
  cases hT : T n with
  | true =>
    obtain ⟨m, h1, h2, h3⟩ := win_rep (f := f) ht n
    exact decide_eq_true ((winR_rests ht).mpr ⟨m, h1, h2, (far_same ht h h1 hn h3).trans hT, h3⟩)
  | false =>
    refine decide_eq_false fun z => ?_
    obtain ⟨m, h1, h2, h3, h4⟩ := (winR_rests ht).mp z
    rw [far_same ht h h1 hn h4, hT] at h3
    cases h3
theorem winR_has {T : Int → Bool} {f t : Int} (hf : 0 ≤ f) (ht : 0 < t) (h : ∀ n, f ≤ n → T (n + t) = T n) {n : Int} (h0 : 0 ≤ n) : (winR T f t).has n = T n := by
  by_cases c : n < f
  · rw [Rs.has_lo (a := winR T f t) c]
    show decide (n ∈ (rngI 0 f.toNat).filter T) = _
    rw [show decide (n ∈ (rngI 0 f.toNat).filter T) = decide (T n = true) from decide_eq_decide.mpr (by
      rw [List.mem_filter, mem_rngI]
      exact ⟨fun h => h.2, fun h => ⟨by omega, h⟩⟩)]
    simp
  · rw [Rs.hasP (a := winR T f t) (by show f ≤ n; omega), winR_P ht h (by omega)]
theorem filt_filt {T p : Int → Bool} {lo lo2 : Int} {n n2 : Nat} (h : ∀ k, (lo ≤ k ∧ k < lo + n ∧ p k = true) ↔ (lo2 ≤ k ∧ k < lo2 + n2)) : ((rngI lo n).filter T).filter p = (rngI lo2 n2).filter T := by
  refine lt_uniq (((rngI_lt _ _).filter _).filter _) ((rngI_lt _ _).filter _) fun k => ?_
  rw [List.mem_filter, List.mem_filter, List.mem_filter, mem_rngI, mem_rngI]
  constructor
  · rintro ⟨⟨h1, h2⟩, h3⟩
    exact ⟨(h k).mp ⟨h1.1, h1.2, h3⟩, h2⟩
  · rintro ⟨h1, h2⟩
    have z := (h k).mpr h1
    exact ⟨⟨⟨z.1, z.2.1⟩, h2⟩, z.2.2⟩
/-- what goes round by one turn goes round by all its multiples -/
theorem Rs.per_dvd {a : Rs} {L : Int} (h : a.turn ∣ L) (h0 : 0 < L) (ht : 0 < a.turn) : ∀ n, a.first ≤ n → a.has (n + L) = a.has n := fun n hn => by
  rw [Rs.hasP (by omega), Rs.hasP hn]
  exact Rs.per_any a.perP (by obtain ⟨k, rfl⟩ := h; rw [Int.add_mul_emod_self_left]) ht
theorem mCV_eq {i : Nat} {fs : List (Str × MF)} {ma : MA} {en : En} {st : Sto} {nm : Str} {g : MF} (h : en[i]? = some (some (.fn nm))) (hg : fs.lookup nm = some g) : mCV i fs ma en st = (ma en st).bind fun p => g p.1 p.2 := by
  unfold mCV
  rw [h]
  dsimp only
  rw [hg]
  rfl
end My


namespace My
open PySem PySem.Spec PyProof.Rows L2
/-! ### two forms compared -/
theorem toPys_ints : ∀ ns : List Int, toPys (ns.map D.int) = some (ns.map PyData.int)
  | [] => rfl
  | b :: bs => by
    rw [List.map_cons, toPys, toPy, b_some, toPys_ints bs]
    rfl
theorem canLay_ints : ∀ ns : List Int, PyData.canLayAll0 (ns.map PyData.int) = true
  | [] => by rw [List.map_nil, PyData.canLayAll0]
  | b :: bs => by
    rw [List.map_cons, PyData.canLayAll0, canLay_ints bs, PyData.canLay0]
    rfl
theorem depth_ints : ∀ ns : List Int, PyData.depthAll (ns.map PyData.int) = 0
  | [] => by rw [List.map_nil, PyData.depthAll]
  | b :: bs => by
    rw [List.map_cons, PyData.depthAll, depth_ints bs, PyData.depth]
    rfl
theorem eqv_ints : ∀ as bs : List Int, PyData.eqvAll (as.map PyData.int) (bs.map PyData.int) = decide (as = bs)
  | [], [] => by rw [List.map_nil, PyData.eqvAll]; rfl
  | [], b :: bs => by rw [List.map_nil, List.map_cons, PyData.eqvAll]; rfl
  | a :: as, [] => by rw [List.map_nil, List.map_cons, PyData.eqvAll]; rfl
  | a :: as, b :: bs => by
    rw [List.map_cons, List.map_cons, PyData.eqvAll, eqv_ints as bs, PyData.eqv]
    rw [Bool.eq_iff_iff]
    simp
def eqR (a b : Rs) : Bool := decide (a.few = b.few) && (decide (a.first = b.first) && (decide (a.turn = b.turn) && decide (a.rests = b.rests)))
theorem eqR_iff {a b : Rs} : eqR a b = true ↔ a = b := by
  unfold eqR
  cases a
  cases b
  simp
def pyR (a : Rs) : PyData := .tuple [.tuple (a.few.map .int), .int a.first, .int a.turn, .tuple (a.rests.map .int)]
theorem toPy_rs (a : Rs) : toPy a.d = some (pyR a) := by
  unfold Rs.d pyR
  rw [toPy, toPys, toPy, toPys_ints, toPys, toPys, toPys, toPy, toPy, toPy, toPys_ints, toPys]
  rfl
theorem shaped_rs (a : Rs) : SeqAt.shaped (pyR a) = true := by
  unfold SeqAt.shaped pyR
  simp only [PyData.canLay0, PyData.canLayAll0, canLay_ints, PyData.depth, PyData.depthAll, depth_ints]
  rfl
theorem eqv_rs (a b : Rs) : PyData.eqv (pyR a) (pyR b) = eqR a b := by
  unfold pyR
  simp only [PyData.eqv, PyData.eqvAll, eqv_ints, Bool.and_true]
  rfl
theorem fEq_rs (a b : Rs) (st : Sto) : fEq a.d b.d st = some (.bl (eqR a b), st) := by
  have d1 : ∀ a : Rs, dat a.d st = some (pyR a) := fun a => by
    rw [← toPy_rs a]
    unfold dat Rs.d
    rfl
  have e : eqD a.d b.d st = (dat a.d st).bind fun p => (dat b.d st).bind fun q => if SeqAt.shaped p = true ∧ SeqAt.shaped q = true then some (PyData.eqv p q) else none := by
    unfold eqD Rs.d
    rfl
  unfold fEq
  rw [e, d1, b_some, d1, b_some, if_pos ⟨shaped_rs _, shaped_rs _⟩, eqv_rs]
  rfl
theorem per_win {a : Rs} {f t l : Int} (ht : 0 < t) (hp : Per a.P t) (h : ∀ m, f ≤ m → m < f + t → a.P (m + l) = a.P m) : Per a.P l := fun n => by
  obtain ⟨m, h1, h2, h3⟩ := win_rep (f := f) ht n
  have e : (m + l) % t = (n + l) % t := by
    rw [Int.add_emod, h3, ← Int.add_emod]
  rw [← Rs.per_any hp h3 ht, ← Rs.per_any hp e ht]
  exact h m h1 h2
theorem winC {T : Int → Bool} {b t : Int} (ht : 0 < t) (hT : ∀ n, b ≤ n → T (n + t) = T n) {f l : Int} (f0 : 0 ≤ f) (l0 : 0 < l) (lt : t % l = 0) (hl : Per (winR T b t).P l) (hmin : ∀ c, 0 < c → c < l → t % c = 0 → ¬ Per (winR T b t).P c)
    (hf : ∀ n, f ≤ n → n < b → T n = (winR T b t).P n) (he : 0 < f → T (f - 1) ≠ (winR T b t).P (f - 1)) : (winR T f l).Canon ∧ ∀ n, 0 ≤ n → (winR T f l).has n = T n := by
  have q : ∀ n, f ≤ n → T n = (winR T b t).P n := fun n hn => by
    by_cases c : n < b
    · exact hf n hn c
    · exact (winR_P ht hT (by omega)).symm
  have hT2 : ∀ n, f ≤ n → T (n + l) = T n := fun n hn => by rw [q n hn, q (n + l) (by omega), hl]
  have hP : ∀ n, (winR T f l).P n = (winR T b t).P n := per_same (f := f) l0 l0 (winR T f l).perP hl fun n h1 _ => (winR_P l0 hT2 h1).trans (q n h1)
  refine ⟨⟨winR_wf f0 l0, fun c c0 c1 c2 hc => hmin c c0 c1 ?_ fun n => ?_, fun h => ?_⟩, fun n h0 => winR_has f0 l0 hT2 h0⟩
  · exact Int.emod_eq_zero_of_dvd (Int.dvd_trans (Int.dvd_of_emod_eq_zero c2) (Int.dvd_of_emod_eq_zero lt))
  · rw [← hP, ← hP]
    exact hc n
  · have h : 0 < f := h
    show decide (f - 1 ∈ (rngI 0 f.toNat).filter T) ≠ (winR T f l).P (f - 1)
    rw [hP]
    have e : decide (f - 1 ∈ (rngI 0 f.toNat).filter T) = T (f - 1) := by
      rw [Bool.eq_iff_iff, decide_eq_true_eq, List.mem_filter, mem_rngI]
      exact ⟨fun h => h.2, fun z => ⟨by omega, z⟩⟩
    rw [e]
    exact he h
theorem atI_rng {α : Type} (g : Int → α) {lo k : Int} {n : Nat} (h0 : 0 ≤ k) (h : k < n) : atI ((rngI lo n).map g) k = some (g (lo + k)) := by
  rw [atI_map, atI_nat h0 (by rw [length_rngI]; exact h)]
  unfold rngI
  simp only [List.getElem_map, List.getElem_range, Option.map_some]
  rw [show ((k.toNat : Nat) : Int) = k by omega]
theorem atI_4 {α : Type} (x y z u v : α) (l : List α) : atI (x :: y :: z :: u :: v :: l) 4 = some v := atI_nat (by omega) (by simp; omega)
/-- a set that ends, by its truths below b -/
def endR (T : Int → Bool) (b : Int) : Rs := ⟨(rngI 0 b.toNat).filter T, match ((rngI 0 b.toNat).filter T).getLast? with
  | some k => k + 1
  | none => 0, 1, []⟩
theorem last_top : ∀ {l : List Int} {k : Int}, l.Pairwise (· < ·) → l.getLast? = some k → k ∈ l ∧ ∀ m ∈ l, m ≤ k
  | [], k, _, h => by cases h
  | [x], k, _, h => by
    cases h
    exact ⟨List.mem_cons_self .., fun m hm => by rcases List.mem_cons.mp hm with rfl | z; exact Int.le_refl _; cases z⟩
  | x :: y :: r, k, hp, h => by
    obtain ⟨h1, h2⟩ := List.pairwise_cons.mp hp
    rw [List.getLast?_cons_cons] at h
    obtain ⟨a1, a2⟩ := last_top h2 h
    refine ⟨List.mem_cons_of_mem _ a1, fun m hm => ?_⟩
    rcases List.mem_cons.mp hm with rfl | z
    · have := h1 k a1
      omega
    · exact a2 m z
theorem endR_ok {T : Int → Bool} {b : Int} (hT : ∀ n, b ≤ n → T n = false) : (endR T b).Canon ∧ (∀ n, 0 ≤ n → (endR T b).has n = T n) ∧ (endR T b).first ≤ (b.toNat : Int) := by
  have hs := (rngI_lt 0 b.toNat).filter T
  have mem : ∀ k, k ∈ (rngI 0 b.toNat).filter T ↔ 0 ≤ k ∧ T k = true := fun k => by
    rw [List.mem_filter, mem_rngI]
    constructor
    · rintro ⟨h1, h2⟩
      exact ⟨h1.1, h2⟩
    · rintro ⟨h1, h2⟩
      refine ⟨⟨h1, ?_⟩, h2⟩
      by_cases c : b ≤ k
      · rw [hT k c] at h2; cases h2
      · omega
  unfold endR
  cases hl : ((rngI 0 b.toNat).filter T).getLast? with
  | none =>
    have e := List.getLast?_eq_none_iff.mp hl
    dsimp only
    rw [e]
    refine ⟨noneR_canon, fun n h0 => ?_, by omega⟩
    have z := noneR_has n
    show noneR.has n = _
    rw [z]
    cases hh : T n with
    | false => rfl
    | true => have := (mem n).mpr ⟨h0, hh⟩; rw [e] at this; cases this
  | some k =>
    obtain ⟨a1, a2⟩ := last_top hs hl
    have k0 := (mem k).mp a1
    have kb := mem_rngI.mp (List.mem_filter.mp a1).1
    dsimp only
    refine ⟨canon_fin hs (fun m hm => ⟨((mem m).mp hm).1, by have := a2 m hm; omega⟩) (by omega) (fun _ => by rw [show k + 1 - 1 = k by omega]; exact a1), fun n h0 => ?_, by omega⟩
    by_cases c : n < k + 1
    · rw [Rs.has_lo (a := ⟨_, k + 1, 1, []⟩) c, Bool.eq_iff_iff, decide_eq_true_eq]
      exact (mem n).trans ⟨fun h => h.2, fun h => ⟨h0, h⟩⟩
    · rw [Rs.hasP (a := ⟨_, k + 1, 1, []⟩) (by show k + 1 ≤ n; omega)]
      show decide (n % 1 ∈ ([] : List Int)) = _
      cases hh : T n with
      | false => simp
      | true => have := a2 n ((mem n).mpr ⟨h0, hh⟩); omega
end My


namespace My
open PySem PySem.Spec PyProof.Rows L2
/-! ### rows of truths as lists -/
def bl (T : Int → Bool) (lo : Int) (n : Nat) : List D := ((rngI lo n).map T).map D.bl
theorem bl_len (T : Int → Bool) (lo : Int) (n : Nat) : (bl T lo n).length = n := by
  unfold bl
  rw [List.length_map, List.length_map, length_rngI]
theorem atI_bl {T : Int → Bool} {lo k : Int} {n : Nat} (h0 : 0 ≤ k) (h : k < n) : atI (bl T lo n) k = some (.bl (T (lo + k))) := by
  unfold bl
  rw [List.map_map, atI_rng (D.bl ∘ T) h0 h]
  rfl
theorem rngI_add (lo : Int) (m n : Nat) : rngI lo (m + n) = rngI lo m ++ rngI (lo + m) n := by
  unfold rngI
  rw [List.range_add, List.map_append, List.map_map]
  congr 1
  refine List.map_congr_left fun i _ => ?_
  show lo + ((m + i : Nat) : Int) = lo + (m : Int) + (i : Int)
  omega
theorem rngI_drop {lo : Int} {n k : Nat} (h : k ≤ n) : (rngI lo n).drop k = rngI (lo + k) (n - k) := by
  obtain ⟨m, rfl⟩ : ∃ m, n = k + m := ⟨n - k, by omega⟩
  rw [rngI_add, List.drop_left' (length_rngI _ _), Nat.add_sub_cancel_left]
theorem rngI_take {lo : Int} {n k : Nat} (h : k ≤ n) : (rngI lo n).take k = rngI lo k := by
  obtain ⟨m, rfl⟩ : ∃ m, n = k + m := ⟨n - k, by omega⟩
  rw [rngI_add, List.take_left' (length_rngI _ _)]
theorem rngI_shift (lo : Int) (n : Nat) : rngI lo n = (rngI 0 n).map fun k => lo + k := by
  unfold rngI
  rw [List.map_map]
  refine List.map_congr_left fun i _ => ?_
  show lo + (i : Int) = lo + (0 + (i : Int))
  omega
theorem bl_drop {T : Int → Bool} {lo : Int} {n k : Nat} (h : k ≤ n) : (bl T lo n).drop k = bl T (lo + k) (n - k) := by
  unfold bl
  rw [← List.map_drop, ← List.map_drop, rngI_drop h]
theorem bl_take {T : Int → Bool} {lo : Int} {n k : Nat} (h : k ≤ n) : (bl T lo n).take k = bl T lo k := by
  unfold bl
  rw [← List.map_take, ← List.map_take, rngI_take h]
theorem bl_congr {T S : Int → Bool} {lo : Int} {n : Nat} (h : ∀ k, lo ≤ k → k < lo + n → T k = S k) : bl T lo n = bl S lo n := by
  unfold bl
  congr 1
  refine List.map_congr_left fun k hk => ?_
  have := mem_rngI.mp hk
  exact h k this.1 this.2
theorem cut_drop (ds : List D) {k : Int} (h : 0 ≤ k) : My.cutD ds (some k) none = ds.drop k.toNat := by
  unfold My.cutD HT.sIx
  dsimp only
  rw [if_neg (by omega), List.take_of_length_le (by rw [List.length_drop]; exact Nat.le_refl _)]
  by_cases hk : k.toNat ≤ ds.length
  · rw [Nat.min_eq_left hk]
  · rw [Nat.min_eq_right (by omega), List.drop_length, List.drop_eq_nil_of_le (by omega)]
theorem cut_mid (ds : List D) {a c : Int} (h0 : 0 ≤ a) (h1 : a ≤ c) (h2 : c ≤ ds.length) : My.cutD ds (some a) (some c) = (ds.drop a.toNat).take (c - a).toNat := by
  unfold My.cutD HT.sIx
  dsimp only
  rw [if_neg (by omega), if_neg (by omega), Nat.min_eq_left (by omega), Nat.min_eq_left (by omega)]
  congr 1
  omega
theorem toPys_bools : ∀ bs : List Bool, toPys (bs.map D.bl) = some (bs.map PyData.bool)
  | [] => rfl
  | b :: bs => by
    rw [List.map_cons, toPys, toPy, b_some, toPys_bools bs]
    rfl
theorem canLay_bools : ∀ bs : List Bool, PyData.canLayAll0 (bs.map PyData.bool) = true
  | [] => by rw [List.map_nil, PyData.canLayAll0]
  | b :: bs => by
    rw [List.map_cons, PyData.canLayAll0, canLay_bools bs, PyData.canLay0]
    rfl
theorem depth_bools : ∀ bs : List Bool, PyData.depthAll (bs.map PyData.bool) = 0
  | [] => by rw [List.map_nil, PyData.depthAll]
  | b :: bs => by
    rw [List.map_cons, PyData.depthAll, depth_bools bs, PyData.depth]
    rfl
theorem shaped_bools (bs : List Bool) : SeqAt.shaped (.list (bs.map PyData.bool)) = true := by
  unfold SeqAt.shaped
  rw [PyData.canLay0, canLay_bools, PyData.depth, depth_bools]
  rfl
theorem eqv_bools : ∀ as bs : List Bool, PyData.eqvAll (as.map PyData.bool) (bs.map PyData.bool) = decide (as = bs)
  | [], [] => by rw [List.map_nil, PyData.eqvAll]; rfl
  | [], b :: bs => by rw [List.map_nil, List.map_cons, PyData.eqvAll]; rfl
  | a :: as, [] => by rw [List.map_nil, List.map_cons, PyData.eqvAll]; rfl
  | a :: as, b :: bs => by
    rw [List.map_cons, List.map_cons, PyData.eqvAll, eqv_bools as bs, PyData.eqv]
    rw [Bool.eq_iff_iff]
    simp
theorem fEq_bools {as bs : List Bool} {st : Sto} : fEq (.lst (as.map D.bl)) (.lst (bs.map D.bl)) st = some (.bl (decide (as = bs)), st) := by
  have d2 : ∀ bs : List Bool, dat (.lst (bs.map D.bl)) st = some (.list (bs.map PyData.bool)) := fun bs => by
    unfold dat
    dsimp only
    rw [toPy, toPys_bools]
    rfl
  unfold fEq eqD
  dsimp only
  rw [d2, b_some, d2, b_some, if_pos ⟨shaped_bools _, shaped_bools _⟩, PyData.eqv, eqv_bools]
  rfl
theorem inD_bools (ms : List Bool) : inD (.bl true) (ms.map D.bl) = decide (true ∈ ms) := by
  unfold inD
  rw [List.any_map, Bool.eq_iff_iff]
  simp [eqF]
theorem flat_bools (ms : List Bool) : (ms.map D.bl).all flatD = true := by
  rw [List.all_map]
  exact List.all_eq_true.mpr fun _ _ => rfl
theorem fIn_bools (neg : Bool) (ms : List Bool) (st : Sto) : fIn neg (.bl true) (.lst (ms.map D.bl)) st = some (.bl (if neg then !decide (true ∈ ms) else decide (true ∈ ms)), st) := by
  unfold fIn
  rw [look_lst, b_some, if_pos ⟨rfl, flat_bools ms⟩, inD_bools]
theorem fMaxL_ints (ns : List Int) (m : Int) (h : ns.max? = some m) (st : Sto) : fMaxL [.lst (ns.map .int)] st = some (.int m, st) := by
  show ((lookL (.lst (ns.map .int)) st).bind fun es => (intsOf es).bind fun ns => ns.max?.map fun m => (D.int m, st)) = _
  rw [lookL_lst, b_some, intsOf_map, b_some, h]
  rfl
theorem ixN_nat {n : Nat} {k : Int} (h0 : 0 ≤ k) (h : k < n) : ixN n k = some k.toNat := by
  unfold ixN
  rw [if_pos h0, if_pos h]
theorem bl_set {T : Int → Bool} {n : Nat} {m : Int} (h0 : 0 ≤ m) (h : m < n) : (bl T 0 n).set m.toNat (.bl true) = bl (fun k => T k || decide (k = m)) 0 n := by
  refine List.ext_getElem (by rw [List.length_set, bl_len, bl_len]) fun i h1 h2 => ?_
  rw [bl_len] at h2
  rw [List.getElem_set]
  have g : ∀ S : Int → Bool, ∀ h, (bl S 0 n)[i]'h = .bl (S i) := fun S h => by
    unfold bl rngI
    simp
  rw [g, g]
  by_cases e : m.toNat = i
  · rw [if_pos e, show decide ((i : Int) = m) = true from decide_eq_true (by omega)]
    simp
  · rw [if_neg e, show decide ((i : Int) = m) = false from decide_eq_false (by omega)]
    simp
theorem top_get (st : Sto) (x : SO) : (st ++ [x])[st.length]? = some x := by simp
theorem top_set (st : Sto) (x y : SO) : (st ++ [x]).set st.length y = st ++ [y] := by simp
theorem settle_top (st : Sto) (x : SO) (d : D) (h : clo st.length d = true) : My.settle st d (st ++ [x]) = (d, st) := by
  unfold My.settle
  rw [if_neg (by simp), if_pos ⟨h, fun i hi => .inl (List.getElem?_append_left hi)⟩]
  simp
theorem clos_bl (T : Int → Bool) (lo : Int) (m n : Nat) : clos m (bl T lo n) = true := by
  unfold bl
  generalize (rngI lo n).map T = bs
  induction bs with
  | nil => rfl
  | cons b bs ih =>
    rw [List.map_cons]
    unfold clos
    rw [ih]
    rfl
theorem bl_app (T : Int → Bool) (lo : Int) (m n : Nat) : bl T lo m ++ bl T (lo + m) n = bl T lo (m + n) := by
  unfold bl
  rw [← List.map_append, ← List.map_append, ← rngI_add]
/-- k pieces one behind the other -/
theorem bl_rep {T : Int → Bool} {lo t : Int} (ht : 0 < t) (hT : ∀ n, lo ≤ n → T (n + t) = T n) : ∀ k : Nat, (List.replicate k (bl T lo t.toNat)).flatten = bl T lo (k * t.toNat)
  | 0 => by
    rw [Nat.zero_mul]
    rfl
  | k + 1 => by
    rw [List.replicate_succ', List.flatten_append, bl_rep ht hT k, List.flatten_cons, List.flatten_nil, List.append_nil]
    have e : bl T lo t.toNat = bl T (lo + (k * t.toNat : Nat)) t.toNat := by
      unfold bl
      rw [rngI_shift lo, rngI_shift (lo + _)]
      simp only [List.map_map]
      refine List.map_congr_left fun j hj => ?_
      have := mem_rngI.mp hj
      show D.bl (T (lo + j)) = D.bl (T (lo + ((k * t.toNat : Nat) : Int) + j))
      congr 1
      have z := far_per ht hT k (lo + j) (by omega)
      rw [← z]
      congr 1
      have e1 : ((k * t.toNat : Nat) : Int) = (k : Int) * t := by
        rw [Int.natCast_mul]
        congr 1
        omega
      rw [e1, Int.mul_comm]
      omega
    rw [e, bl_app]
    congr 1
    rw [Nat.succ_mul]
/-- turned by l it is the same: it goes round by l -/
theorem turn_per {W : Rs} {T : Int → Bool} {b t l : Int} (ht : 0 < t) (hW : ∀ n, b ≤ n → W.P n = T n) (hWt : Per W.P t) (l0 : 0 < l) (l1 : l ≤ t) :
    ((rngI (b + l.toNat) (t.toNat - l.toNat)).map T ++ (rngI b l.toNat).map T = (rngI b t.toNat).map T) ↔ Per W.P l := by
  have e1 : (rngI (b + l.toNat) (t.toNat - l.toNat)).map T ++ (rngI b l.toNat).map T = (rngI 0 t.toNat).map fun k => W.P (b + k + l) := by
    have es : t.toNat = (t.toNat - l.toNat) + l.toNat := by omega
    conv => rhs; rw [es, rngI_add, List.map_append]
    congr 1
    · rw [rngI_shift (b + l.toNat), List.map_map]
      refine List.map_congr_left fun k hk => ?_
      have := mem_rngI.mp hk
      show T (b + (l.toNat : Int) + k) = W.P (b + k + l)
      rw [← hW _ (by omega)]
      congr 1
      omega
    · rw [rngI_shift b, rngI_shift (0 + _), List.map_map, List.map_map]
      refine List.map_congr_left fun k hk => ?_
      have := mem_rngI.mp hk
      show T (b + k) = W.P (b + (0 + ((t.toNat - l.toNat : Nat) : Int) + k) + l)
      rw [← hW _ (by omega), ← hWt (b + k)]
      congr 1
      omega
  have e2 : (rngI b t.toNat).map T = (rngI 0 t.toNat).map fun k => W.P (b + k) := by
    rw [rngI_shift b, List.map_map]
    refine List.map_congr_left fun k hk => ?_
    have := mem_rngI.mp hk
    show T (b + k) = _
    rw [hW _ (by omega)]
  rw [e1, e2]
  constructor
  · intro h
    have h2 := List.map_inj_left.mp h
    refine per_win (f := b) ht hWt fun m h1 h3 => ?_
    have z := h2 (m - b) (mem_rngI.mpr (by omega))
    rw [show b + (m - b) + l = m + l by omega, show b + (m - b) = m by omega] at z
    exact z
  · intro h
    exact List.map_congr_left fun k _ => h (b + k)
end My


namespace K02
open PySem PySem.Spec PyProof.Rows L2 My
def topS (i : Nat) : Stmt := PySem.Challenge.pw_moneyheld_k02_union_meet_less.main.body.getD i (.Pass ⟨0, 0, 0, 0⟩)
theorem bt_set : bootBuiltins ("set" : Str) = some (.type "set") := by decide +kernel
theorem bt_all : bootBuiltins ("all" : Str) = some (.builtin "all") := by decide +kernel
theorem bt_len : bootBuiltins ("len" : Str) = some (.builtin "len") := by decide +kernel
theorem bt_range : bootBuiltins ("range" : Str) = some (.type "range") := by decide +kernel
theorem bt_tuple : bootBuiltins ("tuple" : Str) = some (.type "tuple") := by decide +kernel
theorem bt_sorted : bootBuiltins ("sorted" : Str) = some (.builtin "sorted") := by decide +kernel
theorem bt_max : bootBuiltins ("max" : Str) = some (.builtin "max") := by decide +kernel
theorem bt_abs : bootBuiltins ("abs" : Str) = some (.builtin "abs") := by decide +kernel
theorem bt_int : bootBuiltins ("int" : Str) = some (.type "int") := by decide +kernel
theorem bt_isinstance : bootBuiltins ("isinstance" : Str) = some (.builtin "isinstance") := by decide +kernel
theorem bt_bool : bootBuiltins ("bool" : Str) = some (.type "bool") := by decide +kernel
abbrev s_is_regular : Stmt := topS 2
abbrev s_least_turn : Stmt := topS 3
abbrev s_least_first : Stmt := topS 4
abbrev s_formed : Stmt := topS 5
abbrev s_listed_below : Stmt := topS 6
abbrev s_common_turn : Stmt := topS 8
abbrev s_is_both : Stmt := topS 11
abbrev s_is_either : Stmt := topS 10
abbrev s_is_here : Stmt := topS 12
abbrev s_together : Stmt := topS 9
abbrev s_union : Stmt := topS 13
abbrev s_meet : Stmt := topS 14
abbrev s_less : Stmt := topS 15
abbrev s__law_drum : Stmt := topS 17
abbrev s__law_beat : Stmt := topS 18
abbrev s__law_same : Stmt := topS 19
abbrev s__law_list : Stmt := topS 20
abbrev s__law_form_of : Stmt := topS 21
abbrev s__law_common : Stmt := topS 22
abbrev s__law_drawn : Stmt := topS 23
abbrev s__law_asked : Stmt := topS 24
abbrev s__law_hand : Stmt := topS 25
abbrev s_law : Stmt := topS 26
structure Facts (K : PySem.W.Frag) (mg : Str → Option Value) where
  a_is_regular : Addr
  d_is_regular : FuncData
  F_is_regular : Fun K "is_regular" "is_regular" s_is_regular a_is_regular d_is_regular
  g_is_regular : mg "is_regular" = some (.ref a_is_regular)
  a_least_turn : Addr
  d_least_turn : FuncData
  F_least_turn : Fun K "least_turn" "least_turn" s_least_turn a_least_turn d_least_turn
  g_least_turn : mg "least_turn" = some (.ref a_least_turn)
  a_least_first : Addr
  d_least_first : FuncData
  F_least_first : Fun K "least_first" "least_first" s_least_first a_least_first d_least_first
  g_least_first : mg "least_first" = some (.ref a_least_first)
  a_formed : Addr
  d_formed : FuncData
  F_formed : Fun K "formed" "formed" s_formed a_formed d_formed
  g_formed : mg "formed" = some (.ref a_formed)
  a_listed_below : Addr
  d_listed_below : FuncData
  F_listed_below : Fun K "listed_below" "listed_below" s_listed_below a_listed_below d_listed_below
  g_listed_below : mg "listed_below" = some (.ref a_listed_below)
  a_common_turn : Addr
  d_common_turn : FuncData
  F_common_turn : Fun K "common_turn" "common_turn" s_common_turn a_common_turn d_common_turn
  g_common_turn : mg "common_turn" = some (.ref a_common_turn)
  a_is_both : Addr
  d_is_both : FuncData
  F_is_both : Fun K "is_both" "is_both" s_is_both a_is_both d_is_both
  g_is_both : mg "is_both" = some (.ref a_is_both)
  n_is_both : PySem.W.nsIn K mainGlobals "is_both" = some (some (.ref a_is_both))
  a_is_either : Addr
  d_is_either : FuncData
  F_is_either : Fun K "is_either" "is_either" s_is_either a_is_either d_is_either
  g_is_either : mg "is_either" = some (.ref a_is_either)
  n_is_either : PySem.W.nsIn K mainGlobals "is_either" = some (some (.ref a_is_either))
  a_is_here : Addr
  d_is_here : FuncData
  F_is_here : Fun K "is_here" "is_here" s_is_here a_is_here d_is_here
  g_is_here : mg "is_here" = some (.ref a_is_here)
  n_is_here : PySem.W.nsIn K mainGlobals "is_here" = some (some (.ref a_is_here))
  a_together : Addr
  d_together : FuncData
  F_together : Fun K "together" "together" s_together a_together d_together
  g_together : mg "together" = some (.ref a_together)
  a_union : Addr
  d_union : FuncData
  F_union : Fun K "union" "union" s_union a_union d_union
  g_union : mg "union" = some (.ref a_union)
  n_union : PySem.W.nsIn K mainGlobals "union" = some (some (.ref a_union))
  a_meet : Addr
  d_meet : FuncData
  F_meet : Fun K "meet" "meet" s_meet a_meet d_meet
  g_meet : mg "meet" = some (.ref a_meet)
  n_meet : PySem.W.nsIn K mainGlobals "meet" = some (some (.ref a_meet))
  a_less : Addr
  d_less : FuncData
  F_less : Fun K "less" "less" s_less a_less d_less
  g_less : mg "less" = some (.ref a_less)
  n_less : PySem.W.nsIn K mainGlobals "less" = some (some (.ref a_less))
  a__law_drum : Addr
  d__law_drum : FuncData
  F__law_drum : Fun K "_law_drum" "_law_drum" s__law_drum a__law_drum d__law_drum
  g__law_drum : mg "_law_drum" = some (.ref a__law_drum)
  a__law_beat : Addr
  d__law_beat : FuncData
  F__law_beat : Fun K "_law_beat" "_law_beat" s__law_beat a__law_beat d__law_beat
  g__law_beat : mg "_law_beat" = some (.ref a__law_beat)
  a__law_same : Addr
  d__law_same : FuncData
  F__law_same : Fun K "_law_same" "_law_same" s__law_same a__law_same d__law_same
  g__law_same : mg "_law_same" = some (.ref a__law_same)
  a__law_list : Addr
  d__law_list : FuncData
  F__law_list : Fun K "_law_list" "_law_list" s__law_list a__law_list d__law_list
  g__law_list : mg "_law_list" = some (.ref a__law_list)
  a__law_form_of : Addr
  d__law_form_of : FuncData
  F__law_form_of : Fun K "_law_form_of" "_law_form_of" s__law_form_of a__law_form_of d__law_form_of
  g__law_form_of : mg "_law_form_of" = some (.ref a__law_form_of)
  a__law_common : Addr
  d__law_common : FuncData
  F__law_common : Fun K "_law_common" "_law_common" s__law_common a__law_common d__law_common
  g__law_common : mg "_law_common" = some (.ref a__law_common)
  a__law_drawn : Addr
  d__law_drawn : FuncData
  F__law_drawn : Fun K "_law_drawn" "_law_drawn" s__law_drawn a__law_drawn d__law_drawn
  g__law_drawn : mg "_law_drawn" = some (.ref a__law_drawn)
  a__law_asked : Addr
  d__law_asked : FuncData
  F__law_asked : Fun K "_law_asked" "_law_asked" s__law_asked a__law_asked d__law_asked
  g__law_asked : mg "_law_asked" = some (.ref a__law_asked)
  a__law_hand : Addr
  d__law_hand : FuncData
  F__law_hand : Fun K "_law_hand" "_law_hand" s__law_hand a__law_hand d__law_hand
  g__law_hand : mg "_law_hand" = some (.ref a__law_hand)
  a_law : Addr
  d_law : FuncData
  F_law : Fun K "law" "law" s_law a_law d_law
  g_law : mg "law" = some (.ref a_law)
  b_set : mg "set" = none
  b_all : mg "all" = none
  b_len : mg "len" = none
  b_range : mg "range" = none
  b_tuple : mg "tuple" = none
  b_sorted : mg "sorted" = none
  b_max : mg "max" = none
  b_abs : mg "abs" = none
  b_int : mg "int" = none
  b_isinstance : mg "isinstance" = none
  b_bool : mg "bool" = none
  g_gcd : mg "gcd" = some (.builtin "math.gcd")
section
variable {P : Program} {w : World} {K : PySem.W.Frag} {mg : Str → Option Value} {base : Heap}
theorem b_is_regular (Fc : Facts K mg) : Binds K Fc.d_is_regular ["rests", "turn", "less"] [] := Fc.F_is_regular.binds (ps := ["rests", "turn", "less"]) fun _ _ _ _ _ _ us hl => match us, hl with | [_, _, _], _ => rfl
theorem b_least_turn (Fc : Facts K mg) : Binds K Fc.d_least_turn ["turn", "rests"] [] := Fc.F_least_turn.binds (ps := ["turn", "rests"]) fun _ _ _ _ _ _ us hl => match us, hl with | [_, _], _ => rfl
theorem b_least_first (Fc : Facts K mg) : Binds K Fc.d_least_first ["members", "first", "turn", "rests"] [] := Fc.F_least_first.binds (ps := ["members", "first", "turn", "rests"]) fun _ _ _ _ _ _ us hl => match us, hl with | [_, _, _, _], _ => rfl
theorem b_formed (Fc : Facts K mg) : Binds K Fc.d_formed ["members", "first", "turn", "rests"] [] := Fc.F_formed.binds (ps := ["members", "first", "turn", "rests"]) fun _ _ _ _ _ _ us hl => match us, hl with | [_, _, _, _], _ => rfl
theorem b_listed_below (Fc : Facts K mg) : Binds K Fc.d_listed_below ["amounts", "most"] [] := Fc.F_listed_below.binds (ps := ["amounts", "most"]) fun _ _ _ _ _ _ us hl => match us, hl with | [_, _], _ => rfl
theorem b_common_turn (Fc : Facts K mg) : Binds K Fc.d_common_turn ["one", "other"] [] := Fc.F_common_turn.binds (ps := ["one", "other"]) fun _ _ _ _ _ _ us hl => match us, hl with | [_, _], _ => rfl
theorem b_is_both (Fc : Facts K mg) : Binds K Fc.d_is_both ["here", "there"] [] := Fc.F_is_both.binds (ps := ["here", "there"]) fun _ _ _ _ _ _ us hl => match us, hl with | [_, _], _ => rfl
theorem b_is_either (Fc : Facts K mg) : Binds K Fc.d_is_either ["here", "there"] [] := Fc.F_is_either.binds (ps := ["here", "there"]) fun _ _ _ _ _ _ us hl => match us, hl with | [_, _], _ => rfl
theorem b_is_here (Fc : Facts K mg) : Binds K Fc.d_is_here ["here", "there"] [] := Fc.F_is_here.binds (ps := ["here", "there"]) fun _ _ _ _ _ _ us hl => match us, hl with | [_, _], _ => rfl
theorem b_together (Fc : Facts K mg) : Binds K Fc.d_together ["one", "other", "is_member"] [] := Fc.F_together.binds (ps := ["one", "other", "is_member"]) fun _ _ _ _ _ _ us hl => match us, hl with | [_, _, _], _ => rfl
theorem b_union (Fc : Facts K mg) : Binds K Fc.d_union ["one", "other"] [] := Fc.F_union.binds (ps := ["one", "other"]) fun _ _ _ _ _ _ us hl => match us, hl with | [_, _], _ => rfl
theorem b_meet (Fc : Facts K mg) : Binds K Fc.d_meet ["one", "other"] [] := Fc.F_meet.binds (ps := ["one", "other"]) fun _ _ _ _ _ _ us hl => match us, hl with | [_, _], _ => rfl
theorem b_less (Fc : Facts K mg) : Binds K Fc.d_less ["one", "other"] [] := Fc.F_less.binds (ps := ["one", "other"]) fun _ _ _ _ _ _ us hl => match us, hl with | [_, _], _ => rfl
theorem b__law_drum (Fc : Facts K mg) : Binds K Fc.d__law_drum ["script"] [] := Fc.F__law_drum.binds (ps := ["script"]) fun _ _ _ _ _ _ us hl => match us, hl with | [_], _ => rfl
theorem b__law_beat (Fc : Facts K mg) : Binds K Fc.d__law_beat ["drum", "many"] [] := Fc.F__law_beat.binds (ps := ["drum", "many"]) fun _ _ _ _ _ _ us hl => match us, hl with | [_, _], _ => rfl
theorem b__law_same (Fc : Facts K mg) : Binds K Fc.d__law_same ["told", "due"] [] := Fc.F__law_same.binds (ps := ["told", "due"]) fun _ _ _ _ _ _ us hl => match us, hl with | [_, _], _ => rfl
theorem b__law_list (Fc : Facts K mg) : Binds K Fc.d__law_list ["few", "first", "turn", "rests", "far"] [] := Fc.F__law_list.binds (ps := ["few", "first", "turn", "rests", "far"]) fun _ _ _ _ _ _ us hl => match us, hl with | [_, _, _, _, _], _ => rfl
theorem b__law_form_of (Fc : Facts K mg) : Binds K Fc.d__law_form_of ["found", "behind", "turn"] [] := Fc.F__law_form_of.binds (ps := ["found", "behind", "turn"]) fun _ _ _ _ _ _ us hl => match us, hl with | [_, _, _], _ => rfl
theorem b__law_common (Fc : Facts K mg) : Binds K Fc.d__law_common ["one", "other"] [] := Fc.F__law_common.binds (ps := ["one", "other"]) fun _ _ _ _ _ _ us hl => match us, hl with | [_, _], _ => rfl
theorem b__law_drawn (Fc : Facts K mg) : Binds K Fc.d__law_drawn ["drum", "wide"] [] := Fc.F__law_drawn.binds (ps := ["drum", "wide"]) fun _ _ _ _ _ _ us hl => match us, hl with | [_, _], _ => rfl
theorem b__law_asked (Fc : Facts K mg) : Binds K Fc.d__law_asked ["one", "other"] [] := Fc.F__law_asked.binds (ps := ["one", "other"]) fun _ _ _ _ _ _ us hl => match us, hl with | [_, _], _ => rfl
theorem b__law_hand (Fc : Facts K mg) : Binds K Fc.d__law_hand ["drum"] [] := Fc.F__law_hand.binds (ps := ["drum"]) fun _ _ _ _ _ _ us hl => match us, hl with | [_], _ => rfl
theorem b_law (Fc : Facts K mg) : Binds K Fc.d_law ["script"] [] := Fc.F_law.binds (ps := ["script"]) fun _ _ _ _ _ _ us hl => match us, hl with | [_], _ => rfl
theorem kb_less_0 (Fc : Facts K mg) : KwB Fc.d_less ["one", "other"] 0 ["one", "other"] [0, 1] := Fun.kw Fc.F_less fun _ _ _ _ _ _ us ws h1 h2 => match us, ws, h1, h2 with | [], [_, _], _, _ => rfl
theorem kb_meet_1 (Fc : Facts K mg) : KwB Fc.d_meet ["one", "other"] 0 ["one", "other"] [0, 1] := Fun.kw Fc.F_meet fun _ _ _ _ _ _ us ws h1 h2 => match us, ws, h1, h2 with | [], [_, _], _, _ => rfl
theorem kb_union_2 (Fc : Facts K mg) : KwB Fc.d_union ["one", "other"] 0 ["other", "one"] [1, 0] := Fun.kw Fc.F_union fun _ _ _ _ _ _ us ws h1 h2 => match us, ws, h1, h2 with | [], [_, _], _, _ => rfl
abbrev N_is_regular : List Str := ["rests", "turn", "less", "known", "rest"]
theorem sc_is_regular : FnScope N_is_regular ["rests", "turn", "less"] (defScope s_is_regular) := ⟨rfl, rfl, rfl, by decide +kernel, rfl, by decide +kernel, by decide +kernel⟩
noncomputable def ms_is_regular_0 : MS := (mRet (mCb fAll (mCons (mLc false (miSeq (mV 0)) (.name 4) mYes (mOp (fInS false) (mOp fMod (mOp (fAdd false) (mV 4) (mV 2)) (mV 1)) (mV 3)) [4]) mNil)))
theorem st_is_regular_0 (Fc : Facts K mg) (cdv : Value) (A : Around) (outer : List Env) (s : Shared) (H : Hp) (E : XK) (hr : Room (0) (A.deeper (envOfC "is_regular" (defScope s_is_regular) s.heap.objs.size Fc.a_is_regular cdv))) : PS (cxOf CX0 P w K mg base N_is_regular "is_regular" (defScope s_is_regular) Fc.a_is_regular cdv A outer s H E).nox (stmtAt (defBody s_is_regular) 1) (sM ⟨K, P, w⟩ (ms_is_regular_0)) :=
    (z_ret (x_cb c_all (by rfl) Fc.b_all bt_all (a_cons (x_lc false (T := (.name 4)) (own := [("rest", 4)]) rfl sc_is_regular.nd (i_seq (x_v 0)) (by first | exact blkOk_by (N := N_is_regular) (sc := defScope s_is_regular) (by decide +kernel) | exact blkOk_by (by kernel_rfl)) rfl (fun _ _ _ _ _ => (t_name 4 sc_is_regular.nd rfl (by first | exact Or.inl rfl | exact Or.inr rfl))) (fun _ _ _ _ _ => cs_nil) (fun _ _ _ _ _ => (x_k k_inS (x_mod (x_add false (x_v 4) (x_v 2)) (x_v 1)) (x_v 3)))) a_nil)))
noncomputable def m_is_regular : List D → Sto → Option (D × Sto) := mDef 5 3 (mSeq (mAsg (mCb fSet (mCons (mV 0) mNil)) (mgName 3))
    (ms_is_regular_0))
theorem ok_is_regular (Fc : Facts K mg) : FnOk P w K mg base CX0 1 Fc.a_is_regular Fc.d_is_regular ["rests", "turn", "less"] (spM ⟨K, P, w⟩ m_is_regular) := x_def (k := 0) Fc.F_is_regular sc_is_regular rfl rfl fun cdv A outer s H E hr =>
    (z_cons (z_set 3 sc_is_regular.nd rfl (by first | exact Or.inl rfl | exact Or.inr rfl) (x_ct c_set (by rfl) Fc.b_set bt_set (a_cons (x_v 0) a_nil)))
    (z_one (st_is_regular_0 Fc cdv A outer s H E hr)))
abbrev N_least_turn : List Str := ["turn", "rests", "less", "rest"]
theorem sc_least_turn : FnScope N_least_turn ["turn", "rests"] (defScope s_least_turn) := ⟨rfl, rfl, rfl, by decide +kernel, rfl, by decide +kernel, by decide +kernel⟩
noncomputable def ms_least_turn_0 : MS := (mRet (mTup (mCons (mV 2) (mCons (mCb fTuple (mCons (mCb fSortS (mCons (mCb fSet (mCons (mLc false (miSeq (mV 1)) (.name 3) mYes (mOp fMod (mV 3) (mV 2)) [3]) mNil)) mNil)) mNil)) mNil))))
theorem st_least_turn_0 (Fc : Facts K mg) (cdv : Value) (A : Around) (outer : List Env) (s : Shared) (H : Hp) (E : XK) (hr : Room (1) (A.deeper (envOfC "least_turn" (defScope s_least_turn) s.heap.objs.size Fc.a_least_turn cdv))) : PS (cxOf CX0 P w K mg base N_least_turn "least_turn" (defScope s_least_turn) Fc.a_least_turn cdv A outer s H E).nox (stmtAt (bodyOf (stmtAt (bodyOf (stmtAt (defBody s_least_turn) 1)) 0)) 0) (sM ⟨K, P, w⟩ (ms_least_turn_0)) :=
    (z_ret (x_tup (a_cons (x_v 2) (a_cons (x_ct c_tuple (by rfl) Fc.b_tuple bt_tuple (a_cons (x_cb c_sortS (by rfl) Fc.b_sorted bt_sorted (a_cons (x_ct c_set (by rfl) Fc.b_set bt_set (a_cons (x_lc false (T := (.name 3)) (own := [("rest", 3)]) rfl sc_least_turn.nd (i_seq (x_v 1)) (by first | exact blkOk_by (N := N_least_turn) (sc := defScope s_least_turn) (by decide +kernel) | exact blkOk_by (by kernel_rfl)) rfl (fun _ _ _ _ _ => (t_name 3 sc_least_turn.nd rfl (by first | exact Or.inl rfl | exact Or.inr rfl))) (fun _ _ _ _ _ => cs_nil) (fun _ _ _ _ _ => (x_mod (x_v 3) (x_v 2)))) a_nil)) a_nil)) a_nil)) a_nil))))
noncomputable def ms_least_turn_2 : MS := (mIfS (mAnd (mTB (mOp fEq (mOp fMod (mV 0) (mV 2)) (mC (.int 0)))) (mT (mCb m_is_regular (mCons (mV 1) (mCons (mV 0) (mCons (mV 2) mNil))))))
    (ms_least_turn_0)
    mNext)
theorem st_least_turn_2 (Fc : Facts K mg) (cdv : Value) (A : Around) (outer : List Env) (s : Shared) (H : Hp) (E : XK) (hr : Room (1) (A.deeper (envOfC "least_turn" (defScope s_least_turn) s.heap.objs.size Fc.a_least_turn cdv))) : PS (cxOf CX0 P w K mg base N_least_turn "least_turn" (defScope s_least_turn) Fc.a_least_turn cdv A outer s H E).nox (stmtAt (bodyOf (stmtAt (defBody s_least_turn) 1)) 0) (sM ⟨K, P, w⟩ (ms_least_turn_2)) :=
    (z_if (y_and (y_k (k_eq hr) (x_mod (x_v 0) (x_v 2)) x_int) (y_and1 (y_t (x_call (ok_is_regular Fc) (hr.mono (by decide)) (by rfl) Fc.g_is_regular Fc.F_is_regular.kp (b_is_regular Fc) (a_cons (x_v 1) (a_cons (x_v 0) (a_cons (x_v 2) a_nil))))))).pt
    (z_one (st_least_turn_0 Fc cdv A outer s H E hr))
    z_nil)
noncomputable def ms_least_turn_4 : MS := (mIfS (mTB (mOp fEq (mCb fLen (mCons (mV 1) mNil)) (mC (.int 0))))
    (mRet (mTup (mCons (mC (.int 1)) (mCons (mTup mNil) mNil))))
    mNext)
theorem st_least_turn_4 (Fc : Facts K mg) (cdv : Value) (A : Around) (outer : List Env) (s : Shared) (H : Hp) (E : XK) (hr : Room (1) (A.deeper (envOfC "least_turn" (defScope s_least_turn) s.heap.objs.size Fc.a_least_turn cdv))) : PS (cxOf CX0 P w K mg base N_least_turn "least_turn" (defScope s_least_turn) Fc.a_least_turn cdv A outer s H E).nox (stmtAt (defBody s_least_turn) 0) (sM ⟨K, P, w⟩ (ms_least_turn_4)) :=
    (z_if (y_k (k_eq hr) (x_cb c_len (by rfl) Fc.b_len bt_len (a_cons (x_v 1) a_nil)) x_int)
    (z_one (z_ret (x_tup (a_cons x_int (a_cons (x_tup a_nil) a_nil)))))
    z_nil)
noncomputable def ms_least_turn_6 : MS := (mFor (miRng2 (mCons (mC (.int 1)) (mCons (mOp (fAdd false) (mV 0) (mC (.int 1))) mNil))) (.name 2)
    (ms_least_turn_2))
theorem st_least_turn_6 (Fc : Facts K mg) (cdv : Value) (A : Around) (outer : List Env) (s : Shared) (H : Hp) (E : XK) (hr : Room (1) (A.deeper (envOfC "least_turn" (defScope s_least_turn) s.heap.objs.size Fc.a_least_turn cdv))) : PS (cxOf CX0 P w K mg base N_least_turn "least_turn" (defScope s_least_turn) Fc.a_least_turn cdv A outer s H E).nox (stmtAt (defBody s_least_turn) 1) (sM ⟨K, P, w⟩ (ms_least_turn_6)) :=
    (z_for PassesOwn.never rfl (i_rng2 (by rfl) Fc.b_range (a_cons x_int (a_cons (x_add false (x_v 0) x_int) a_nil))) (t_name 2 sc_least_turn.nd rfl (by first | exact Or.inl rfl | exact Or.inr rfl))
    (z_one (st_least_turn_2 Fc cdv A outer s H E hr)))
noncomputable def m_least_turn : List D → Sto → Option (D × Sto) := mDef 4 2 (mSeq (ms_least_turn_4)
    (mSeq (ms_least_turn_6)
    (mRet (mTup (mCons (mV 0) (mCons (mV 1) mNil))))))
theorem ok_least_turn (Fc : Facts K mg) : FnOk P w K mg base CX0 2 Fc.a_least_turn Fc.d_least_turn ["turn", "rests"] (spM ⟨K, P, w⟩ m_least_turn) := x_def (k := 1) Fc.F_least_turn sc_least_turn rfl rfl fun cdv A outer s H E hr =>
    (z_cons (st_least_turn_4 Fc cdv A outer s H E hr)
    (z_cons (st_least_turn_6 Fc cdv A outer s H E hr)
    (z_one (z_ret (x_tup (a_cons (x_v 0) (a_cons (x_v 1) a_nil)))))))
abbrev N_least_first : List Str := ["members", "first", "turn", "rests", "known"]
theorem sc_least_first : FnScope N_least_first ["members", "first", "turn", "rests"] (defScope s_least_first) := ⟨rfl, rfl, rfl, by decide +kernel, rfl, by decide +kernel, by decide +kernel⟩
noncomputable def ms_least_first_0 : MS := (mWh (mAnd (mTB (mOp fGt (mV 1) (mC (.int 0)))) (mTB (mOp fEq (mOp (fInS false) (mOp fSub (mV 1) (mC (.int 1))) (mV 4)) (mOp (fIn false) (mOp fMod (mOp fSub (mV 1) (mC (.int 1))) (mV 2)) (mV 3)))))
    (mAsg (mOp fSub (mV 1) (mC (.int 1))) (mgName 1)))
theorem st_least_first_0 (Fc : Facts K mg) (cdv : Value) (A : Around) (outer : List Env) (s : Shared) (H : Hp) (E : XK) (hr : Room (0) (A.deeper (envOfC "least_first" (defScope s_least_first) s.heap.objs.size Fc.a_least_first cdv))) : PS (cxOf CX0 P w K mg base N_least_first "least_first" (defScope s_least_first) Fc.a_least_first cdv A outer s H E).nox (stmtAt (defBody s_least_first) 1) (sM ⟨K, P, w⟩ (ms_least_first_0)) :=
    (z_while PassesOwn.never (y_and (y_k k_gt (x_v 1) x_int) (y_and1 (y_k (k_eq hr) (x_k k_inS (x_sub (x_v 1) x_int) (x_v 4)) (x_k k_in (x_mod (x_sub (x_v 1) x_int) (x_v 2)) (x_v 3))))).pt
    (z_one (z_set 1 sc_least_first.nd rfl (by first | exact Or.inl rfl | exact Or.inr rfl) (x_sub (x_v 1) x_int))))
noncomputable def m_least_first : List D → Sto → Option (D × Sto) := mDef 5 4 (mSeq (mAsg (mCb fSet (mCons (mV 0) mNil)) (mgName 4))
    (mSeq (ms_least_first_0)
    (mRet (mV 1))))
theorem ok_least_first (Fc : Facts K mg) : FnOk P w K mg base CX0 1 Fc.a_least_first Fc.d_least_first ["members", "first", "turn", "rests"] (spM ⟨K, P, w⟩ m_least_first) := x_def (k := 0) Fc.F_least_first sc_least_first rfl rfl fun cdv A outer s H E hr =>
    (z_cons (z_set 4 sc_least_first.nd rfl (by first | exact Or.inl rfl | exact Or.inr rfl) (x_ct c_set (by rfl) Fc.b_set bt_set (a_cons (x_v 0) a_nil)))
    (z_cons (st_least_first_0 Fc cdv A outer s H E hr)
    (z_one (z_ret (x_v 1)))))
abbrev N_formed : List Str := ["members", "first", "turn", "rests", "begin", "less", "fewer", "member"]
theorem sc_formed : FnScope N_formed ["members", "first", "turn", "rests"] (defScope s_formed) := ⟨rfl, rfl, rfl, by decide +kernel, rfl, by decide +kernel, by decide +kernel⟩
noncomputable def ms_formed_0 : MS := (mAsg (mCb m_least_turn (mCons (mV 2) (mCons (mV 3) mNil))) (mgTup 2 (mgCons (mgT (.name 5)) (mgCons (mgT (.name 6)) mgNil))))
theorem st_formed_0 (Fc : Facts K mg) (cdv : Value) (A : Around) (outer : List Env) (s : Shared) (H : Hp) (E : XK) (hr : Room (2) (A.deeper (envOfC "formed" (defScope s_formed) s.heap.objs.size Fc.a_formed cdv))) : PS (cxOf CX0 P w K mg base N_formed "formed" (defScope s_formed) Fc.a_formed cdv A outer s H E).nox (stmtAt (defBody s_formed) 0) (sM ⟨K, P, w⟩ (ms_formed_0)) :=
    (z_asg (x_call (ok_least_turn Fc) (hr.mono (by decide)) (by rfl) Fc.g_least_turn Fc.F_least_turn.kp (b_least_turn Fc) (a_cons (x_v 2) (a_cons (x_v 3) a_nil))) (g_tup (n := 2) rfl (g_cons (g_T (t_name 5 sc_formed.nd rfl (by first | exact Or.inl rfl | exact Or.inr rfl))) (g_cons (g_T (t_name 6 sc_formed.nd rfl (by first | exact Or.inl rfl | exact Or.inr rfl))) g_nil))))
noncomputable def ms_formed_2 : MS := (mAsg (mCb m_least_first (mCons (mV 0) (mCons (mV 1) (mCons (mV 5) (mCons (mV 6) mNil))))) (mgName 4))
theorem st_formed_2 (Fc : Facts K mg) (cdv : Value) (A : Around) (outer : List Env) (s : Shared) (H : Hp) (E : XK) (hr : Room (2) (A.deeper (envOfC "formed" (defScope s_formed) s.heap.objs.size Fc.a_formed cdv))) : PS (cxOf CX0 P w K mg base N_formed "formed" (defScope s_formed) Fc.a_formed cdv A outer s H E).nox (stmtAt (defBody s_formed) 1) (sM ⟨K, P, w⟩ (ms_formed_2)) :=
    (z_set 4 sc_formed.nd rfl (by first | exact Or.inl rfl | exact Or.inr rfl) (x_call (ok_least_first Fc) (hr.mono (by decide)) (by rfl) Fc.g_least_first Fc.F_least_first.kp (b_least_first Fc) (a_cons (x_v 0) (a_cons (x_v 1) (a_cons (x_v 5) (a_cons (x_v 6) a_nil))))))
noncomputable def ms_formed_4 : MS := (mRet (mTup (mCons (mCb fTuple (mCons (mLc false (miSeq (mV 0)) (.name 7) (mTB (mOp fLt (mV 7) (mV 4))) (mV 7) [7]) mNil)) (mCons (mV 4) (mCons (mV 5) (mCons (mV 6) mNil))))))
theorem st_formed_4 (Fc : Facts K mg) (cdv : Value) (A : Around) (outer : List Env) (s : Shared) (H : Hp) (E : XK) (hr : Room (2) (A.deeper (envOfC "formed" (defScope s_formed) s.heap.objs.size Fc.a_formed cdv))) : PS (cxOf CX0 P w K mg base N_formed "formed" (defScope s_formed) Fc.a_formed cdv A outer s H E).nox (stmtAt (defBody s_formed) 2) (sM ⟨K, P, w⟩ (ms_formed_4)) :=
    (z_ret (x_tup (a_cons (x_ct c_tuple (by rfl) Fc.b_tuple bt_tuple (a_cons (x_lc false (T := (.name 7)) (own := [("member", 7)]) rfl sc_formed.nd (i_seq (x_v 0)) (by first | exact blkOk_by (N := N_formed) (sc := defScope s_formed) (by decide +kernel) | exact blkOk_by (by kernel_rfl)) rfl (fun _ _ _ _ _ => (t_name 7 sc_formed.nd rfl (by first | exact Or.inl rfl | exact Or.inr rfl))) (fun _ _ _ _ _ => (cs_one (y_k k_lt (x_v 7) (x_v 4)))) (fun _ _ _ _ _ => (x_v 7))) a_nil)) (a_cons (x_v 4) (a_cons (x_v 5) (a_cons (x_v 6) a_nil))))))
noncomputable def m_formed : List D → Sto → Option (D × Sto) := mDef 8 4 (mSeq (ms_formed_0)
    (mSeq (ms_formed_2)
    (ms_formed_4)))
theorem ok_formed (Fc : Facts K mg) : FnOk P w K mg base CX0 3 Fc.a_formed Fc.d_formed ["members", "first", "turn", "rests"] (spM ⟨K, P, w⟩ m_formed) := x_def (k := 2) Fc.F_formed sc_formed rfl rfl fun cdv A outer s H E hr =>
    (z_cons (st_formed_0 Fc cdv A outer s H E hr)
    (z_cons (st_formed_2 Fc cdv A outer s H E hr)
    (z_one (st_formed_4 Fc cdv A outer s H E hr))))
abbrev N_listed_below : List Str := ["amounts", "most", "going", "few", "first", "turn", "rests", "number"]
theorem sc_listed_below : FnScope N_listed_below ["amounts", "most"] (defScope s_listed_below) := ⟨rfl, rfl, rfl, by decide +kernel, rfl, by decide +kernel, by decide +kernel⟩
noncomputable def ms_listed_below_0 : MS := (mAsg (mV 0) (mgTup 4 (mgCons (mgT (.name 3)) (mgCons (mgT (.name 4)) (mgCons (mgT (.name 5)) (mgCons (mgT (.name 6)) mgNil))))))
theorem st_listed_below_0 (Fc : Facts K mg) (cdv : Value) (A : Around) (outer : List Env) (s : Shared) (H : Hp) (E : XK) (hr : Room (0) (A.deeper (envOfC "listed_below" (defScope s_listed_below) s.heap.objs.size Fc.a_listed_below cdv))) : PS (cxOf CX0 P w K mg base N_listed_below "listed_below" (defScope s_listed_below) Fc.a_listed_below cdv A outer s H E).nox (stmtAt (defBody s_listed_below) 0) (sM ⟨K, P, w⟩ (ms_listed_below_0)) :=
    (z_asg (x_v 0) (g_tup (n := 4) rfl (g_cons (g_T (t_name 3 sc_listed_below.nd rfl (by first | exact Or.inl rfl | exact Or.inr rfl))) (g_cons (g_T (t_name 4 sc_listed_below.nd rfl (by first | exact Or.inl rfl | exact Or.inr rfl))) (g_cons (g_T (t_name 5 sc_listed_below.nd rfl (by first | exact Or.inl rfl | exact Or.inr rfl))) (g_cons (g_T (t_name 6 sc_listed_below.nd rfl (by first | exact Or.inl rfl | exact Or.inr rfl))) g_nil))))))
noncomputable def ms_listed_below_2 : MS := (mAsg (mLc false (miRng2 (mCons (mV 4) (mCons (mV 1) mNil))) (.name 7) (mTB (mOp (fIn false) (mOp fMod (mV 7) (mV 5)) (mV 6))) (mV 7) [7]) (mgName 2))
theorem st_listed_below_2 (Fc : Facts K mg) (cdv : Value) (A : Around) (outer : List Env) (s : Shared) (H : Hp) (E : XK) (hr : Room (0) (A.deeper (envOfC "listed_below" (defScope s_listed_below) s.heap.objs.size Fc.a_listed_below cdv))) : PS (cxOf CX0 P w K mg base N_listed_below "listed_below" (defScope s_listed_below) Fc.a_listed_below cdv A outer s H E).nox (stmtAt (defBody s_listed_below) 1) (sM ⟨K, P, w⟩ (ms_listed_below_2)) :=
    (x_setLc false (i := 2) (T := (.name 7)) (own := [("number", 7)]) rfl sc_listed_below.nd rfl rfl (sw_true rfl rfl rfl (by decide +kernel)) (i_rng2 (by rfl) Fc.b_range (a_cons (x_v 4) (a_cons (x_v 1) a_nil))) (by first | exact blkOk_by (N := N_listed_below) (sc := defScope s_listed_below) (by decide +kernel) | exact blkOk_by (by kernel_rfl)) rfl (fun _ _ _ _ _ => (t_name 7 sc_listed_below.nd rfl (by first | exact Or.inl rfl | exact Or.inr rfl))) (fun _ _ _ _ _ => (cs_one (y_k k_in (x_mod (x_v 7) (x_v 5)) (x_v 6)))) (fun _ _ _ _ _ => (x_v 7)))
noncomputable def ms_listed_below_4 : MS := (mRet (mOp (fAdd false) (mLc false (miSeq (mV 3)) (.name 7) (mTB (mOp fLt (mV 7) (mV 1))) (mV 7) [7]) (mV 2)))
theorem st_listed_below_4 (Fc : Facts K mg) (cdv : Value) (A : Around) (outer : List Env) (s : Shared) (H : Hp) (E : XK) (hr : Room (0) (A.deeper (envOfC "listed_below" (defScope s_listed_below) s.heap.objs.size Fc.a_listed_below cdv))) : PS (cxOf CX0 P w K mg base N_listed_below "listed_below" (defScope s_listed_below) Fc.a_listed_below cdv A outer s H E).nox (stmtAt (defBody s_listed_below) 2) (sM ⟨K, P, w⟩ (ms_listed_below_4)) :=
    (z_ret (x_add false (x_lc false (T := (.name 7)) (own := [("number", 7)]) rfl sc_listed_below.nd (i_seq (x_v 3)) (by first | exact blkOk_by (N := N_listed_below) (sc := defScope s_listed_below) (by decide +kernel) | exact blkOk_by (by kernel_rfl)) rfl (fun _ _ _ _ _ => (t_name 7 sc_listed_below.nd rfl (by first | exact Or.inl rfl | exact Or.inr rfl))) (fun _ _ _ _ _ => (cs_one (y_k k_lt (x_v 7) (x_v 1)))) (fun _ _ _ _ _ => (x_v 7))) (x_v 2)))
noncomputable def m_listed_below : List D → Sto → Option (D × Sto) := mDef 8 2 (mSeq (ms_listed_below_0)
    (mSeq (ms_listed_below_2)
    (ms_listed_below_4)))
theorem ok_listed_below (Fc : Facts K mg) : FnOk P w K mg base CX0 1 Fc.a_listed_below Fc.d_listed_below ["amounts", "most"] (spM ⟨K, P, w⟩ m_listed_below) := x_def (k := 0) Fc.F_listed_below sc_listed_below rfl rfl fun cdv A outer s H E hr =>
    (z_cons (st_listed_below_0 Fc cdv A outer s H E hr)
    (z_cons (st_listed_below_2 Fc cdv A outer s H E hr)
    (z_one (st_listed_below_4 Fc cdv A outer s H E hr))))
abbrev N_common_turn : List Str := ["one", "other"]
theorem sc_common_turn : FnScope N_common_turn ["one", "other"] (defScope s_common_turn) := ⟨rfl, rfl, rfl, by decide +kernel, rfl, by decide +kernel, by decide +kernel⟩
noncomputable def ms_common_turn_0 : MS := (mRet (mOp fDiv (mOp (fMul false) (mOp fIx (mV 0) (mC (.int 2))) (mOp fIx (mV 1) (mC (.int 2)))) (mCb fGcd (mCons (mOp fIx (mV 0) (mC (.int 2))) (mCons (mOp fIx (mV 1) (mC (.int 2))) mNil)))))
theorem st_common_turn_0 (Fc : Facts K mg) (cdv : Value) (A : Around) (outer : List Env) (s : Shared) (H : Hp) (E : XK) (hr : Room (0) (A.deeper (envOfC "common_turn" (defScope s_common_turn) s.heap.objs.size Fc.a_common_turn cdv))) : PS (cxOf CX0 P w K mg base N_common_turn "common_turn" (defScope s_common_turn) Fc.a_common_turn cdv A outer s H E).nox (stmtAt (defBody s_common_turn) 0) (sM ⟨K, P, w⟩ (ms_common_turn_0)) :=
    (z_ret (x_fdiv (x_mul false (x_ix (x_v 0) x_int) (x_ix (x_v 1) x_int)) (x_cf c_gcd (by rfl) Fc.g_gcd (a_cons (x_ix (x_v 0) x_int) (a_cons (x_ix (x_v 1) x_int) a_nil)))))
noncomputable def m_common_turn : List D → Sto → Option (D × Sto) := mDef 2 2 (ms_common_turn_0)
theorem ok_common_turn (Fc : Facts K mg) : FnOk P w K mg base CX0 1 Fc.a_common_turn Fc.d_common_turn ["one", "other"] (spM ⟨K, P, w⟩ m_common_turn) := x_def (k := 0) Fc.F_common_turn sc_common_turn rfl rfl fun cdv A outer s H E hr =>
    (z_one (st_common_turn_0 Fc cdv A outer s H E hr))
abbrev N_is_both : List Str := ["here", "there"]
theorem sc_is_both : FnScope N_is_both ["here", "there"] (defScope s_is_both) := ⟨rfl, rfl, rfl, by decide +kernel, rfl, by decide +kernel, by decide +kernel⟩
noncomputable def m_is_both : List D → Sto → Option (D × Sto) := mDef 2 2 (mRet (mAndV (mV 0) (mV 1)))
theorem ok_is_both (Fc : Facts K mg) : FnOk P w K mg base CX0 1 Fc.a_is_both Fc.d_is_both ["here", "there"] (spM ⟨K, P, w⟩ m_is_both) := x_def (k := 0) Fc.F_is_both sc_is_both rfl rfl fun cdv A outer s H E hr =>
    (z_one (z_ret (x_and (x_v 0) (x_one (x_v 1)))))
abbrev N_is_either : List Str := ["here", "there"]
theorem sc_is_either : FnScope N_is_either ["here", "there"] (defScope s_is_either) := ⟨rfl, rfl, rfl, by decide +kernel, rfl, by decide +kernel, by decide +kernel⟩
noncomputable def m_is_either : List D → Sto → Option (D × Sto) := mDef 2 2 (mRet (mOrV (mV 0) (mV 1)))
theorem ok_is_either (Fc : Facts K mg) : FnOk P w K mg base CX0 1 Fc.a_is_either Fc.d_is_either ["here", "there"] (spM ⟨K, P, w⟩ m_is_either) := x_def (k := 0) Fc.F_is_either sc_is_either rfl rfl fun cdv A outer s H E hr =>
    (z_one (z_ret (x_or (x_v 0) (x_one (x_v 1)))))
abbrev N_is_here : List Str := ["here", "there"]
theorem sc_is_here : FnScope N_is_here ["here", "there"] (defScope s_is_here) := ⟨rfl, rfl, rfl, by decide +kernel, rfl, by decide +kernel, by decide +kernel⟩
noncomputable def m_is_here : List D → Sto → Option (D × Sto) := mDef 2 2 (mRet (mAndV (mV 0) (mNotV (mV 1))))
theorem ok_is_here (Fc : Facts K mg) : FnOk P w K mg base CX0 1 Fc.a_is_here Fc.d_is_here ["here", "there"] (spM ⟨K, P, w⟩ m_is_here) := x_def (k := 0) Fc.F_is_here sc_is_here rfl rfl fun cdv A outer s H E hr =>
    (z_one (z_ret (x_and (x_v 0) (x_one (x_not (x_v 1))))))
abbrev N_together : List Str := ["one", "other", "is_member", "first", "turn", "here", "there", "told", "rests", "number"]
theorem sc_together : FnScope N_together ["one", "other", "is_member"] (defScope s_together) := ⟨rfl, rfl, rfl, by decide +kernel, rfl, by decide +kernel, by decide +kernel⟩
noncomputable def ms_together_0 : MS := (mAsg (mCb fMaxL (mCons (mOp fIx (mV 0) (mC (.int 1))) (mCons (mOp fIx (mV 1) (mC (.int 1))) mNil))) (mgName 3))
theorem st_together_0 (Fc : Facts K mg) (cdv : Value) (A : Around) (outer : List Env) (s : Shared) (H : Hp) (E : XK) (hr : Room (3) (A.deeper (envOfC "together" (defScope s_together) s.heap.objs.size Fc.a_together cdv))) : PS (cxOf CX0 P w K mg base N_together "together" (defScope s_together) Fc.a_together cdv A outer s H E).nox (stmtAt (defBody s_together) 0) (sM ⟨K, P, w⟩ (ms_together_0)) :=
    (z_set 3 sc_together.nd rfl (by first | exact Or.inl rfl | exact Or.inr rfl) (x_cb c_max (by rfl) Fc.b_max bt_max (a_cons (x_ix (x_v 0) x_int) (a_cons (x_ix (x_v 1) x_int) a_nil))))
noncomputable def ms_together_2 : MS := (mAsg (mCb m_common_turn (mCons (mV 0) (mCons (mV 1) mNil))) (mgName 4))
theorem st_together_2 (Fc : Facts K mg) (cdv : Value) (A : Around) (outer : List Env) (s : Shared) (H : Hp) (E : XK) (hr : Room (3) (A.deeper (envOfC "together" (defScope s_together) s.heap.objs.size Fc.a_together cdv))) : PS (cxOf CX0 P w K mg base N_together "together" (defScope s_together) Fc.a_together cdv A outer s H E).nox (stmtAt (defBody s_together) 1) (sM ⟨K, P, w⟩ (ms_together_2)) :=
    (z_set 4 sc_together.nd rfl (by first | exact Or.inl rfl | exact Or.inr rfl) (x_call (ok_common_turn Fc) (hr.mono (by decide)) (by rfl) Fc.g_common_turn Fc.F_common_turn.kp (b_common_turn Fc) (a_cons (x_v 0) (a_cons (x_v 1) a_nil))))
noncomputable def ms_together_4 : MS := (mAsg (mCb fSet (mCons (mCb m_listed_below (mCons (mV 0) (mCons (mOp (fAdd false) (mV 3) (mV 4)) mNil))) mNil)) (mgName 5))
theorem st_together_4 (Fc : Facts K mg) (cdv : Value) (A : Around) (outer : List Env) (s : Shared) (H : Hp) (E : XK) (hr : Room (3) (A.deeper (envOfC "together" (defScope s_together) s.heap.objs.size Fc.a_together cdv))) : PS (cxOf CX0 P w K mg base N_together "together" (defScope s_together) Fc.a_together cdv A outer s H E).nox (stmtAt (defBody s_together) 2) (sM ⟨K, P, w⟩ (ms_together_4)) :=
    (z_set 5 sc_together.nd rfl (by first | exact Or.inl rfl | exact Or.inr rfl) (x_ct c_set (by rfl) Fc.b_set bt_set (a_cons (x_call (ok_listed_below Fc) (hr.mono (by decide)) (by rfl) Fc.g_listed_below Fc.F_listed_below.kp (b_listed_below Fc) (a_cons (x_v 0) (a_cons (x_add false (x_v 3) (x_v 4)) a_nil))) a_nil)))
noncomputable def ms_together_6 : MS := (mAsg (mCb fSet (mCons (mCb m_listed_below (mCons (mV 1) (mCons (mOp (fAdd false) (mV 3) (mV 4)) mNil))) mNil)) (mgName 6))
theorem st_together_6 (Fc : Facts K mg) (cdv : Value) (A : Around) (outer : List Env) (s : Shared) (H : Hp) (E : XK) (hr : Room (3) (A.deeper (envOfC "together" (defScope s_together) s.heap.objs.size Fc.a_together cdv))) : PS (cxOf CX0 P w K mg base N_together "together" (defScope s_together) Fc.a_together cdv A outer s H E).nox (stmtAt (defBody s_together) 3) (sM ⟨K, P, w⟩ (ms_together_6)) :=
    (z_set 6 sc_together.nd rfl (by first | exact Or.inl rfl | exact Or.inr rfl) (x_ct c_set (by rfl) Fc.b_set bt_set (a_cons (x_call (ok_listed_below Fc) (hr.mono (by decide)) (by rfl) Fc.g_listed_below Fc.F_listed_below.kp (b_listed_below Fc) (a_cons (x_v 1) (a_cons (x_add false (x_v 3) (x_v 4)) a_nil))) a_nil)))
noncomputable def ms_together_8 : MS := (mAsg (mLc false (miRng1 (mCons (mOp (fAdd false) (mV 3) (mV 4)) mNil)) (.name 9) (mT (mCV 2 [("is_either", m_is_either), ("is_both", m_is_both), ("is_here", m_is_here)] (mCons (mOp (fInS false) (mV 9) (mV 5)) (mCons (mOp (fInS false) (mV 9) (mV 6)) mNil)))) (mV 9) [9]) (mgName 7))
theorem st_together_8 (Fc : Facts K mg) (cdv : Value) (A : Around) (outer : List Env) (s : Shared) (H : Hp) (E : XK) (hr : Room (3) (A.deeper (envOfC "together" (defScope s_together) s.heap.objs.size Fc.a_together cdv))) : PS (cxOf CX0 P w K mg base N_together "together" (defScope s_together) Fc.a_together cdv A outer s H E).nox (stmtAt (defBody s_together) 4) (sM ⟨K, P, w⟩ (ms_together_8)) :=
    (x_setLc false (i := 7) (T := (.name 9)) (own := [("number", 9)]) rfl sc_together.nd rfl rfl (sw_true rfl rfl rfl (by decide +kernel)) (i_rng1 (by rfl) Fc.b_range (a_cons (x_add false (x_v 3) (x_v 4)) a_nil)) (by first | exact blkOk_by (N := N_together) (sc := defScope s_together) (by decide +kernel) | exact blkOk_by (by kernel_rfl)) rfl (fun _ _ _ _ _ => (t_name 9 sc_together.nd rfl (by first | exact Or.inl rfl | exact Or.inr rfl))) (fun _ _ _ _ _ => (cs_one (y_t (x_callV (i := 2) (k := 1) (fs := [("is_either", m_is_either), ("is_both", m_is_both), ("is_here", m_is_here)]) (fv_cons ⟨_, Fc.a_is_either, Fc.d_is_either, _, by decide, Fc.n_is_either, ok_is_either Fc, Fc.F_is_either.kp, b_is_either Fc⟩ (fv_cons ⟨_, Fc.a_is_both, Fc.d_is_both, _, by decide, Fc.n_is_both, ok_is_both Fc, Fc.F_is_both.kp, b_is_both Fc⟩ (fv_cons ⟨_, Fc.a_is_here, Fc.d_is_here, _, by decide, Fc.n_is_here, ok_is_here Fc, Fc.F_is_here.kp, b_is_here Fc⟩ fv_nil))) (hr.mono (by decide)) rfl (by first | exact Or.inl rfl | exact Or.inr (Or.inl rfl) | exact Or.inr (Or.inr rfl)) (a_cons (x_k k_inS (x_v 9) (x_v 5)) (a_cons (x_k k_inS (x_v 9) (x_v 6)) a_nil)))))) (fun _ _ _ _ _ => (x_v 9)))
noncomputable def ms_together_10 : MS := (mAsg (mCb fTuple (mCons (mCb (fSorted false) (mCons (mLc false (miSeq (mV 7)) (.name 9) (mTB (mOp fGe (mV 9) (mV 3))) (mOp fMod (mV 9) (mV 4)) [9]) mNil)) mNil)) (mgName 8))
theorem st_together_10 (Fc : Facts K mg) (cdv : Value) (A : Around) (outer : List Env) (s : Shared) (H : Hp) (E : XK) (hr : Room (3) (A.deeper (envOfC "together" (defScope s_together) s.heap.objs.size Fc.a_together cdv))) : PS (cxOf CX0 P w K mg base N_together "together" (defScope s_together) Fc.a_together cdv A outer s H E).nox (stmtAt (defBody s_together) 5) (sM ⟨K, P, w⟩ (ms_together_10)) :=
    (z_set 8 sc_together.nd rfl (by first | exact Or.inl rfl | exact Or.inr rfl) (x_ct c_tuple (by rfl) Fc.b_tuple bt_tuple (a_cons (x_cb (c_sorted false) (by rfl) Fc.b_sorted bt_sorted (a_cons (x_lc false (T := (.name 9)) (own := [("number", 9)]) rfl sc_together.nd (i_seq (x_v 7)) (by first | exact blkOk_by (N := N_together) (sc := defScope s_together) (by decide +kernel) | exact blkOk_by (by kernel_rfl)) rfl (fun _ _ _ _ _ => (t_name 9 sc_together.nd rfl (by first | exact Or.inl rfl | exact Or.inr rfl))) (fun _ _ _ _ _ => (cs_one (y_k k_ge (x_v 9) (x_v 3)))) (fun _ _ _ _ _ => (x_mod (x_v 9) (x_v 4)))) a_nil)) a_nil)))
noncomputable def ms_together_12 : MS := (mRet (mCb m_formed (mCons (mCb fTuple (mCons (mLc false (miSeq (mV 7)) (.name 9) (mTB (mOp fLt (mV 9) (mV 3))) (mV 9) [9]) mNil)) (mCons (mV 3) (mCons (mV 4) (mCons (mV 8) mNil))))))
theorem st_together_12 (Fc : Facts K mg) (cdv : Value) (A : Around) (outer : List Env) (s : Shared) (H : Hp) (E : XK) (hr : Room (3) (A.deeper (envOfC "together" (defScope s_together) s.heap.objs.size Fc.a_together cdv))) : PS (cxOf CX0 P w K mg base N_together "together" (defScope s_together) Fc.a_together cdv A outer s H E).nox (stmtAt (defBody s_together) 6) (sM ⟨K, P, w⟩ (ms_together_12)) :=
    (z_ret (x_call (ok_formed Fc) (hr.mono (by decide)) (by rfl) Fc.g_formed Fc.F_formed.kp (b_formed Fc) (a_cons (x_ct c_tuple (by rfl) Fc.b_tuple bt_tuple (a_cons (x_lc false (T := (.name 9)) (own := [("number", 9)]) rfl sc_together.nd (i_seq (x_v 7)) (by first | exact blkOk_by (N := N_together) (sc := defScope s_together) (by decide +kernel) | exact blkOk_by (by kernel_rfl)) rfl (fun _ _ _ _ _ => (t_name 9 sc_together.nd rfl (by first | exact Or.inl rfl | exact Or.inr rfl))) (fun _ _ _ _ _ => (cs_one (y_k k_lt (x_v 9) (x_v 3)))) (fun _ _ _ _ _ => (x_v 9))) a_nil)) (a_cons (x_v 3) (a_cons (x_v 4) (a_cons (x_v 8) a_nil))))))
noncomputable def m_together : List D → Sto → Option (D × Sto) := mDef 10 3 (mSeq (ms_together_0)
    (mSeq (ms_together_2)
    (mSeq (ms_together_4)
    (mSeq (ms_together_6)
    (mSeq (ms_together_8)
    (mSeq (ms_together_10)
    (ms_together_12)))))))
theorem ok_together (Fc : Facts K mg) : FnOk P w K mg base CX0 4 Fc.a_together Fc.d_together ["one", "other", "is_member"] (spM ⟨K, P, w⟩ m_together) := x_def (k := 3) Fc.F_together sc_together rfl rfl fun cdv A outer s H E hr =>
    (z_cons (st_together_0 Fc cdv A outer s H E hr)
    (z_cons (st_together_2 Fc cdv A outer s H E hr)
    (z_cons (st_together_4 Fc cdv A outer s H E hr)
    (z_cons (st_together_6 Fc cdv A outer s H E hr)
    (z_cons (st_together_8 Fc cdv A outer s H E hr)
    (z_cons (st_together_10 Fc cdv A outer s H E hr)
    (z_one (st_together_12 Fc cdv A outer s H E hr))))))))
abbrev N_union : List Str := ["one", "other"]
theorem sc_union : FnScope N_union ["one", "other"] (defScope s_union) := ⟨rfl, rfl, rfl, by decide +kernel, rfl, by decide +kernel, by decide +kernel⟩
noncomputable def ms_union_0 : MS := (mRet (mCb m_together (mCons (mV 0) (mCons (mV 1) (mCons (mC (.fn "is_either")) mNil)))))
theorem st_union_0 (Fc : Facts K mg) (cdv : Value) (A : Around) (outer : List Env) (s : Shared) (H : Hp) (E : XK) (hr : Room (4) (A.deeper (envOfC "union" (defScope s_union) s.heap.objs.size Fc.a_union cdv))) : PS (cxOf CX0 P w K mg base N_union "union" (defScope s_union) Fc.a_union cdv A outer s H E).nox (stmtAt (defBody s_union) 0) (sM ⟨K, P, w⟩ (ms_union_0)) :=
    (z_ret (x_call (ok_together Fc) (hr.mono (by decide)) (by rfl) Fc.g_together Fc.F_together.kp (b_together Fc) (a_cons (x_v 0) (a_cons (x_v 1) (a_cons (x_fn (by rfl) Fc.g_is_either Fc.n_is_either) a_nil)))))
noncomputable def m_union : List D → Sto → Option (D × Sto) := mDef 2 2 (ms_union_0)
theorem ok_union (Fc : Facts K mg) : FnOk P w K mg base CX0 5 Fc.a_union Fc.d_union ["one", "other"] (spM ⟨K, P, w⟩ m_union) := x_def (k := 4) Fc.F_union sc_union rfl rfl fun cdv A outer s H E hr =>
    (z_one (st_union_0 Fc cdv A outer s H E hr))
abbrev N_meet : List Str := ["one", "other"]
theorem sc_meet : FnScope N_meet ["one", "other"] (defScope s_meet) := ⟨rfl, rfl, rfl, by decide +kernel, rfl, by decide +kernel, by decide +kernel⟩
noncomputable def ms_meet_0 : MS := (mRet (mCb m_together (mCons (mV 0) (mCons (mV 1) (mCons (mC (.fn "is_both")) mNil)))))
theorem st_meet_0 (Fc : Facts K mg) (cdv : Value) (A : Around) (outer : List Env) (s : Shared) (H : Hp) (E : XK) (hr : Room (4) (A.deeper (envOfC "meet" (defScope s_meet) s.heap.objs.size Fc.a_meet cdv))) : PS (cxOf CX0 P w K mg base N_meet "meet" (defScope s_meet) Fc.a_meet cdv A outer s H E).nox (stmtAt (defBody s_meet) 0) (sM ⟨K, P, w⟩ (ms_meet_0)) :=
    (z_ret (x_call (ok_together Fc) (hr.mono (by decide)) (by rfl) Fc.g_together Fc.F_together.kp (b_together Fc) (a_cons (x_v 0) (a_cons (x_v 1) (a_cons (x_fn (by rfl) Fc.g_is_both Fc.n_is_both) a_nil)))))
noncomputable def m_meet : List D → Sto → Option (D × Sto) := mDef 2 2 (ms_meet_0)
theorem ok_meet (Fc : Facts K mg) : FnOk P w K mg base CX0 5 Fc.a_meet Fc.d_meet ["one", "other"] (spM ⟨K, P, w⟩ m_meet) := x_def (k := 4) Fc.F_meet sc_meet rfl rfl fun cdv A outer s H E hr =>
    (z_one (st_meet_0 Fc cdv A outer s H E hr))
abbrev N_less : List Str := ["one", "other"]
theorem sc_less : FnScope N_less ["one", "other"] (defScope s_less) := ⟨rfl, rfl, rfl, by decide +kernel, rfl, by decide +kernel, by decide +kernel⟩
noncomputable def ms_less_0 : MS := (mRet (mCb m_together (mCons (mV 0) (mCons (mV 1) (mCons (mC (.fn "is_here")) mNil)))))
theorem st_less_0 (Fc : Facts K mg) (cdv : Value) (A : Around) (outer : List Env) (s : Shared) (H : Hp) (E : XK) (hr : Room (4) (A.deeper (envOfC "less" (defScope s_less) s.heap.objs.size Fc.a_less cdv))) : PS (cxOf CX0 P w K mg base N_less "less" (defScope s_less) Fc.a_less cdv A outer s H E).nox (stmtAt (defBody s_less) 0) (sM ⟨K, P, w⟩ (ms_less_0)) :=
    (z_ret (x_call (ok_together Fc) (hr.mono (by decide)) (by rfl) Fc.g_together Fc.F_together.kp (b_together Fc) (a_cons (x_v 0) (a_cons (x_v 1) (a_cons (x_fn (by rfl) Fc.g_is_here Fc.n_is_here) a_nil)))))
noncomputable def m_less : List D → Sto → Option (D × Sto) := mDef 2 2 (ms_less_0)
theorem ok_less (Fc : Facts K mg) : FnOk P w K mg base CX0 5 Fc.a_less Fc.d_less ["one", "other"] (spM ⟨K, P, w⟩ m_less) := x_def (k := 4) Fc.F_less sc_less rfl rfl fun cdv A outer s H E hr =>
    (z_one (st_less_0 Fc cdv A outer s H E hr))
abbrev N__law_drum : List Str := ["script", "cell", "great", "hum", "size"]
theorem sc__law_drum : FnScope N__law_drum ["script"] (defScope s__law_drum) := ⟨rfl, rfl, rfl, by decide +kernel, rfl, by decide +kernel, by decide +kernel⟩
noncomputable def ms__law_drum_0 : MS := (mAsg (mOp fMod (mCb fAbs (mCons (mCb fInt (mCons (mV 1) mNil)) mNil)) (mOp fShl (mC (.int 1)) (mC (.int 1600)))) (mgName 4))
theorem st__law_drum_0 (Fc : Facts K mg) (cdv : Value) (A : Around) (outer : List Env) (s : Shared) (H : Hp) (E : XK) (hr : Room (0) (A.deeper (envOfC "_law_drum" (defScope s__law_drum) s.heap.objs.size Fc.a__law_drum cdv))) : PS (cxOf CX0 P w K mg base N__law_drum "_law_drum" (defScope s__law_drum) Fc.a__law_drum cdv A outer s H E).nox (stmtAt (bodyOf (stmtAt (defBody s__law_drum) 1)) 0) (sM ⟨K, P, w⟩ (ms__law_drum_0)) :=
    (z_set 4 sc__law_drum.nd rfl (by first | exact Or.inl rfl | exact Or.inr rfl) (x_mod (x_cb c_abs (by rfl) Fc.b_abs bt_abs (a_cons (x_ct c_int (by rfl) Fc.b_int bt_int (a_cons (x_v 1) a_nil)) a_nil)) (x_shl x_int x_int)))
noncomputable def ms__law_drum_2 : MS := (mAsg (mOp fMod (mOp (fAdd false) (mOp (fAdd false) (mOp (fMul false) (mV 3) (mC (.int 33301))) (mOp (fMul false) (mOp fMod (mCb fInt (mCons (mV 4) mNil)) (mC (.int 1000081))) (mC (.int 3)))) (mC (.int 41))) (mC (.int 1073741689))) (mgName 3))
theorem st__law_drum_2 (Fc : Facts K mg) (cdv : Value) (A : Around) (outer : List Env) (s : Shared) (H : Hp) (E : XK) (hr : Room (0) (A.deeper (envOfC "_law_drum" (defScope s__law_drum) s.heap.objs.size Fc.a__law_drum cdv))) : PS (cxOf CX0 P w K mg base N__law_drum "_law_drum" (defScope s__law_drum) Fc.a__law_drum cdv A outer s H E).nox (stmtAt (bodyOf (stmtAt (defBody s__law_drum) 1)) 1) (sM ⟨K, P, w⟩ (ms__law_drum_2)) :=
    (z_set 3 sc__law_drum.nd rfl (by first | exact Or.inl rfl | exact Or.inr rfl) (x_mod (x_add false (x_add false (x_mul false (x_v 3) x_int) (x_mul false (x_mod (x_ct c_int (by rfl) Fc.b_int bt_int (a_cons (x_v 4) a_nil)) x_int) x_int)) x_int) x_int))
noncomputable def ms__law_drum_4 : MS := (mFor (miSeq (mSl false (mV 0) mNone (mSome (mC (.int 56))))) (.name 1)
    (mSeq (ms__law_drum_0)
    (mSeq (ms__law_drum_2)
    (mIfS (mTB (mOp fGe (mV 4) (mOp fPow (mC (.int 10)) (mC (.int 18)))))
    (mDrop (mMt fInsert (mV 2) (mCons (mC (.int 0)) (mCons (mV 4) mNil))))
    mNext))))
theorem st__law_drum_4 (Fc : Facts K mg) (cdv : Value) (A : Around) (outer : List Env) (s : Shared) (H : Hp) (E : XK) (hr : Room (0) (A.deeper (envOfC "_law_drum" (defScope s__law_drum) s.heap.objs.size Fc.a__law_drum cdv))) : PS (cxOf CX0 P w K mg base N__law_drum "_law_drum" (defScope s__law_drum) Fc.a__law_drum cdv A outer s H E).nox (stmtAt (defBody s__law_drum) 1) (sM ⟨K, P, w⟩ (ms__law_drum_4)) :=
    (z_for PassesOwn.never rfl (i_seq (x_sl false (x_v 0) o_none (o_some x_int))) (t_name 1 sc__law_drum.nd rfl (by first | exact Or.inl rfl | exact Or.inr rfl))
    (z_cons (st__law_drum_0 Fc cdv A outer s H E hr)
    (z_cons (st__law_drum_2 Fc cdv A outer s H E hr)
    (z_one (z_if (y_k k_ge (x_v 4) (x_pow x_int x_int))
    (z_one (z_expr (x_insert (x_v 2) (a_cons x_int (a_cons (x_v 4) a_nil)))))
    z_nil)))))
noncomputable def m__law_drum : List D → Sto → Option (D × Sto) := mDef 5 1 (mSeq (mPar 2 3 (mCons (mLst true mNil) (mCons (mC (.int 24203)) mNil)))
    (mSeq (ms__law_drum_4)
    (mRet (mLst true (mCons (mV 2) (mCons (mV 3) (mCons (mC (.int 0)) mNil)))))))
theorem ok__law_drum (Fc : Facts K mg) : FnOk P w K mg base CX0 1 Fc.a__law_drum Fc.d__law_drum ["script"] (spM ⟨K, P, w⟩ m__law_drum) := x_def (k := 0) Fc.F__law_drum sc__law_drum rfl rfl fun cdv A outer s H E hr =>
    (z_cons (z_par 2 3 rfl sc__law_drum.nd rfl rfl (by decide) rfl rfl (a_cons (x_lst true a_nil) (a_cons x_int a_nil)))
    (z_cons (st__law_drum_4 Fc cdv A outer s H E hr)
    (z_one (z_ret (x_lst true (a_cons (x_v 2) (a_cons (x_v 3) (a_cons x_int a_nil))))))))
abbrev N__law_beat : List Str := ["drum", "many", "size"]
theorem sc__law_beat : FnScope N__law_beat ["drum", "many"] (defScope s__law_beat) := ⟨rfl, rfl, rfl, by decide +kernel, rfl, by decide +kernel, by decide +kernel⟩
noncomputable def ms__law_beat_0 : MS := (mAsg (mCb fInt (mCons (mOp fIx (mOp fIx (mV 0) (mC (.int 0))) (mUn fNeg (mC (.int 1)))) mNil)) (mgName 2))
theorem st__law_beat_0 (Fc : Facts K mg) (cdv : Value) (A : Around) (outer : List Env) (s : Shared) (H : Hp) (E : XK) (hr : Room (0) (A.deeper (envOfC "_law_beat" (defScope s__law_beat) s.heap.objs.size Fc.a__law_beat cdv))) : PS (cxOf CX0 P w K mg base N__law_beat "_law_beat" (defScope s__law_beat) Fc.a__law_beat cdv A outer s H E).nox (stmtAt (bodyOf (stmtAt (defBody s__law_beat) 1)) 0) (sM ⟨K, P, w⟩ (ms__law_beat_0)) :=
    (z_set 2 sc__law_beat.nd rfl (by first | exact Or.inl rfl | exact Or.inr rfl) (x_ct c_int (by rfl) Fc.b_int bt_int (a_cons (x_ix (x_ix (x_v 0) x_int) (x_neg x_int)) a_nil)))
noncomputable def ms__law_beat_2 : MS := (mWh (mAnd (mTB (mOp fGt (mCb fLen (mCons (mOp fIx (mV 0) (mC (.int 0))) mNil)) (mC (.int 0)))) (mTB (mOp fEq (mOp fIx (mOp fIx (mV 0) (mC (.int 0))) (mUn fNeg (mC (.int 1)))) (mC (.int 0)))))
    (mDrop (mMt fPop (mOp fIx (mV 0) (mC (.int 0))) mNil)))
theorem st__law_beat_2 (Fc : Facts K mg) (cdv : Value) (A : Around) (outer : List Env) (s : Shared) (H : Hp) (E : XK) (hr : Room (0) (A.deeper (envOfC "_law_beat" (defScope s__law_beat) s.heap.objs.size Fc.a__law_beat cdv))) : PS (cxOf CX0 P w K mg base N__law_beat "_law_beat" (defScope s__law_beat) Fc.a__law_beat cdv A outer s H E).nox (stmtAt (defBody s__law_beat) 0) (sM ⟨K, P, w⟩ (ms__law_beat_2)) :=
    (z_while PassesOwn.never (y_and (y_k k_gt (x_cb c_len (by rfl) Fc.b_len bt_len (a_cons (x_ix (x_v 0) x_int) a_nil)) x_int) (y_and1 (y_k (k_eq hr) (x_ix (x_ix (x_v 0) x_int) (x_neg x_int)) x_int))).pt
    (z_one (z_expr (x_pop (x_ix (x_v 0) x_int)))))
noncomputable def ms__law_beat_4 : MS := (mIfS (mTB (mOp fGt (mCb fLen (mCons (mOp fIx (mV 0) (mC (.int 0))) mNil)) (mC (.int 0))))
    (mSeq (ms__law_beat_0)
    (mSeq (mAsg (mOp fDiv (mV 2) (mV 1)) (mgSub (mOp fIx (mV 0) (mC (.int 0))) (mUn fNeg (mC (.int 1))) fSetL))
    (mRet (mOp fMod (mV 2) (mV 1)))))
    mNext)
theorem st__law_beat_4 (Fc : Facts K mg) (cdv : Value) (A : Around) (outer : List Env) (s : Shared) (H : Hp) (E : XK) (hr : Room (0) (A.deeper (envOfC "_law_beat" (defScope s__law_beat) s.heap.objs.size Fc.a__law_beat cdv))) : PS (cxOf CX0 P w K mg base N__law_beat "_law_beat" (defScope s__law_beat) Fc.a__law_beat cdv A outer s H E).nox (stmtAt (defBody s__law_beat) 1) (sM ⟨K, P, w⟩ (ms__law_beat_4)) :=
    (z_if (y_k k_gt (x_cb c_len (by rfl) Fc.b_len bt_len (a_cons (x_ix (x_v 0) x_int) a_nil)) x_int)
    (z_cons (st__law_beat_0 Fc cdv A outer s H E hr)
    (z_cons (z_asg (x_fdiv (x_v 2) (x_v 1)) (g_sub (x_ix (x_v 0) x_int) (x_neg x_int)))
    (z_one (z_ret (x_mod (x_v 2) (x_v 1))))))
    z_nil)
noncomputable def ms__law_beat_6 : MS := (mAsg (mOp fMod (mOp (fAdd false) (mOp (fAdd false) (mOp (fMul false) (mCb fInt (mCons (mOp fIx (mV 0) (mC (.int 1))) mNil)) (mC (.int 27011))) (mOp (fMul false) (mOp fIx (mV 0) (mC (.int 2))) (mC (.int 5741)))) (mC (.int 2))) (mC (.int 1073741689))) (mgSub (mV 0) (mC (.int 1)) fSetL))
theorem st__law_beat_6 (Fc : Facts K mg) (cdv : Value) (A : Around) (outer : List Env) (s : Shared) (H : Hp) (E : XK) (hr : Room (0) (A.deeper (envOfC "_law_beat" (defScope s__law_beat) s.heap.objs.size Fc.a__law_beat cdv))) : PS (cxOf CX0 P w K mg base N__law_beat "_law_beat" (defScope s__law_beat) Fc.a__law_beat cdv A outer s H E).nox (stmtAt (defBody s__law_beat) 3) (sM ⟨K, P, w⟩ (ms__law_beat_6)) :=
    (z_asg (x_mod (x_add false (x_add false (x_mul false (x_ct c_int (by rfl) Fc.b_int bt_int (a_cons (x_ix (x_v 0) x_int) a_nil)) x_int) (x_mul false (x_ix (x_v 0) x_int) x_int)) x_int) x_int) (g_sub (x_v 0) x_int))
noncomputable def m__law_beat : List D → Sto → Option (D × Sto) := mDef 3 2 (mSeq (ms__law_beat_2)
    (mSeq (ms__law_beat_4)
    (mSeq (mAsg (mOp (fAdd false) (mOp fIx (mV 0) (mC (.int 2))) (mC (.int 1))) (mgSub (mV 0) (mC (.int 2)) fSetL))
    (mSeq (ms__law_beat_6)
    (mRet (mOp fMod (mOp fDiv (mCb fInt (mCons (mOp fIx (mV 0) (mC (.int 1))) mNil)) (mC (.int 67))) (mV 1)))))))
theorem ok__law_beat (Fc : Facts K mg) : FnOk P w K mg base CX0 1 Fc.a__law_beat Fc.d__law_beat ["drum", "many"] (spM ⟨K, P, w⟩ m__law_beat) := x_def (k := 0) Fc.F__law_beat sc__law_beat rfl rfl fun cdv A outer s H E hr =>
    (z_cons (st__law_beat_2 Fc cdv A outer s H E hr)
    (z_cons (st__law_beat_4 Fc cdv A outer s H E hr)
    (z_cons (z_asg (x_add false (x_ix (x_v 0) x_int) x_int) (g_sub (x_v 0) x_int))
    (z_cons (st__law_beat_6 Fc cdv A outer s H E hr)
    (z_one (z_ret (x_mod (x_fdiv (x_ct c_int (by rfl) Fc.b_int bt_int (a_cons (x_ix (x_v 0) x_int) a_nil)) x_int) (x_v 1))))))))
abbrev N__law_same : List Str := ["told", "due", "at"]
theorem sc__law_same : FnScope N__law_same ["told", "due"] (defScope s__law_same) := ⟨rfl, rfl, rfl, by decide +kernel, rfl, by decide +kernel, by decide +kernel⟩
noncomputable def ms__law_same_0 (rc : List D → Sto → Option (D × Sto)) : MS := (mIfS (mNot (mT (mCb rc (mCons (mOp fIx (mV 0) (mV 2)) (mCons (mOp fIx (mV 1) (mV 2)) mNil)))))
    (mRet (mC (.bl false)))
    mNext)
theorem st__law_same_0 (Fc : Facts K mg) (n : Nat) (rc : List D → Sto → Option (D × Sto)) (ih : FnOk P w K mg base CX0 (n + 1) Fc.a__law_same Fc.d__law_same ["told", "due"] (spM ⟨K, P, w⟩ rc)) (cdv : Value) (A : Around) (outer : List Env) (s : Shared) (H : Hp) (E : XK) (hr : Room (n + 1) (A.deeper (envOfC "_law_same" (defScope s__law_same) s.heap.objs.size Fc.a__law_same cdv))) : PS (cxOf CX0 P w K mg base N__law_same "_law_same" (defScope s__law_same) Fc.a__law_same cdv A outer s H E).nox (stmtAt (bodyOf (stmtAt (bodyOf (stmtAt (defBody s__law_same) 0)) 1)) 0) (sM ⟨K, P, w⟩ (ms__law_same_0 rc)) :=
    (z_if (y_not (y_t (x_call ih (hr.mono (by omega)) (by rfl) Fc.g__law_same Fc.F__law_same.kp (b__law_same Fc) (a_cons (x_ix (x_v 0) (x_v 2)) (a_cons (x_ix (x_v 1) (x_v 2)) a_nil)))))
    (z_one (z_ret x_bl))
    z_nil)
noncomputable def ms__law_same_2 (rc : List D → Sto → Option (D × Sto)) : MS := (mIfS (mOr (mNot (mT (mCb fIsi (mCons (mV 0) (mCons (mC (.ty "tuple")) mNil))))) (mTB (mOp fNe (mCb fLen (mCons (mV 0) mNil)) (mCb fLen (mCons (mV 1) mNil)))))
    (mRet (mC (.bl false)))
    mNext)
theorem st__law_same_2 (Fc : Facts K mg) (n : Nat) (rc : List D → Sto → Option (D × Sto)) (ih : FnOk P w K mg base CX0 (n + 1) Fc.a__law_same Fc.d__law_same ["told", "due"] (spM ⟨K, P, w⟩ rc)) (cdv : Value) (A : Around) (outer : List Env) (s : Shared) (H : Hp) (E : XK) (hr : Room (n + 1) (A.deeper (envOfC "_law_same" (defScope s__law_same) s.heap.objs.size Fc.a__law_same cdv))) : PS (cxOf CX0 P w K mg base N__law_same "_law_same" (defScope s__law_same) Fc.a__law_same cdv A outer s H E).nox (stmtAt (bodyOf (stmtAt (defBody s__law_same) 0)) 0) (sM ⟨K, P, w⟩ (ms__law_same_2 rc)) :=
    (z_if (y_or (y_not (y_t (x_cb c_isi (by rfl) Fc.b_isinstance bt_isinstance (a_cons (x_v 0) (a_cons (x_ty (by rfl) Fc.b_tuple bt_tuple) a_nil))))) (y_or1 (y_k (k_ne hr) (x_cb c_len (by rfl) Fc.b_len bt_len (a_cons (x_v 0) a_nil)) (x_cb c_len (by rfl) Fc.b_len bt_len (a_cons (x_v 1) a_nil))))).pt
    (z_one (z_ret x_bl))
    z_nil)
noncomputable def ms__law_same_4 (rc : List D → Sto → Option (D × Sto)) : MS := (mFor (miRng1 (mCons (mCb fLen (mCons (mV 1) mNil)) mNil)) (.name 2)
    (ms__law_same_0 rc))
theorem st__law_same_4 (Fc : Facts K mg) (n : Nat) (rc : List D → Sto → Option (D × Sto)) (ih : FnOk P w K mg base CX0 (n + 1) Fc.a__law_same Fc.d__law_same ["told", "due"] (spM ⟨K, P, w⟩ rc)) (cdv : Value) (A : Around) (outer : List Env) (s : Shared) (H : Hp) (E : XK) (hr : Room (n + 1) (A.deeper (envOfC "_law_same" (defScope s__law_same) s.heap.objs.size Fc.a__law_same cdv))) : PS (cxOf CX0 P w K mg base N__law_same "_law_same" (defScope s__law_same) Fc.a__law_same cdv A outer s H E).nox (stmtAt (bodyOf (stmtAt (defBody s__law_same) 0)) 1) (sM ⟨K, P, w⟩ (ms__law_same_4 rc)) :=
    (z_for PassesOwn.never rfl (i_rng1 (by rfl) Fc.b_range (a_cons (x_cb c_len (by rfl) Fc.b_len bt_len (a_cons (x_v 1) a_nil)) a_nil)) (t_name 2 sc__law_same.nd rfl (by first | exact Or.inl rfl | exact Or.inr rfl))
    (z_one (st__law_same_0 Fc n rc ih cdv A outer s H E hr)))
noncomputable def ms__law_same_6 (rc : List D → Sto → Option (D × Sto)) : MS := (mIfS (mT (mCb fIsi (mCons (mV 1) (mCons (mC (.ty "tuple")) mNil))))
    (mSeq (ms__law_same_2 rc)
    (mSeq (ms__law_same_4 rc)
    (mRet (mC (.bl true)))))
    mNext)
theorem st__law_same_6 (Fc : Facts K mg) (n : Nat) (rc : List D → Sto → Option (D × Sto)) (ih : FnOk P w K mg base CX0 (n + 1) Fc.a__law_same Fc.d__law_same ["told", "due"] (spM ⟨K, P, w⟩ rc)) (cdv : Value) (A : Around) (outer : List Env) (s : Shared) (H : Hp) (E : XK) (hr : Room (n + 1) (A.deeper (envOfC "_law_same" (defScope s__law_same) s.heap.objs.size Fc.a__law_same cdv))) : PS (cxOf CX0 P w K mg base N__law_same "_law_same" (defScope s__law_same) Fc.a__law_same cdv A outer s H E).nox (stmtAt (defBody s__law_same) 0) (sM ⟨K, P, w⟩ (ms__law_same_6 rc)) :=
    (z_if (y_t (x_cb c_isi (by rfl) Fc.b_isinstance bt_isinstance (a_cons (x_v 1) (a_cons (x_ty (by rfl) Fc.b_tuple bt_tuple) a_nil))))
    (z_cons (st__law_same_2 Fc n rc ih cdv A outer s H E hr)
    (z_cons (st__law_same_4 Fc n rc ih cdv A outer s H E hr)
    (z_one (z_ret x_bl))))
    z_nil)
noncomputable def ms__law_same_8 (rc : List D → Sto → Option (D × Sto)) : MS := (mRet (mAndV (mCb fIsi (mCons (mV 0) (mCons (mC (.ty "int")) mNil))) (mAndV (mNotV (mCb fIsi (mCons (mV 0) (mCons (mC (.ty "bool")) mNil)))) (mOp fEq (mV 0) (mV 1)))))
theorem st__law_same_8 (Fc : Facts K mg) (n : Nat) (rc : List D → Sto → Option (D × Sto)) (ih : FnOk P w K mg base CX0 (n + 1) Fc.a__law_same Fc.d__law_same ["told", "due"] (spM ⟨K, P, w⟩ rc)) (cdv : Value) (A : Around) (outer : List Env) (s : Shared) (H : Hp) (E : XK) (hr : Room (n + 1) (A.deeper (envOfC "_law_same" (defScope s__law_same) s.heap.objs.size Fc.a__law_same cdv))) : PS (cxOf CX0 P w K mg base N__law_same "_law_same" (defScope s__law_same) Fc.a__law_same cdv A outer s H E).nox (stmtAt (defBody s__law_same) 1) (sM ⟨K, P, w⟩ (ms__law_same_8 rc)) :=
    (z_ret (x_and (x_cb c_isi (by rfl) Fc.b_isinstance bt_isinstance (a_cons (x_v 0) (a_cons (x_ty (by rfl) Fc.b_int bt_int) a_nil))) (x_and (x_not (x_cb c_isi (by rfl) Fc.b_isinstance bt_isinstance (a_cons (x_v 0) (a_cons (x_ty (by rfl) Fc.b_bool bt_bool) a_nil)))) (x_one (x_k (k_eq hr) (x_v 0) (x_v 1))))))
noncomputable def mb__law_same (rc : List D → Sto → Option (D × Sto)) : MS := (mSeq (ms__law_same_6 rc)
    (ms__law_same_8 rc))
noncomputable def m__law_same : Nat → List D → Sto → Option (D × Sto)
  | 0 => fun _ _ => none
  | n + 1 => mDef 3 2 (mb__law_same (m__law_same n))
theorem ok__law_same : ∀ (n : Nat) (Fc : Facts K mg), FnOk P w K mg base CX0 (n + 1) Fc.a__law_same Fc.d__law_same ["told", "due"] (spM ⟨K, P, w⟩ (m__law_same n))
  | 0, Fc => x_def0
  | n + 1, Fc => by
    have ih : FnOk P w K mg base CX0 (n + 1) Fc.a__law_same Fc.d__law_same ["told", "due"] (spM ⟨K, P, w⟩ (m__law_same n)) := ok__law_same n Fc
    have e : n + 1 + 1 = (n + 1) + 1 := by omega
    rw [e]
    have rx : ∀ rc, FnOk P w K mg base CX0 (n + 1) Fc.a__law_same Fc.d__law_same ["told", "due"] (spM ⟨K, P, w⟩ rc) → FnOk P w K mg base CX0 (n + 1 + 1) Fc.a__law_same Fc.d__law_same ["told", "due"] (spM ⟨K, P, w⟩ (mDef 3 2 (mb__law_same rc))) := fun rc ih => x_def Fc.F__law_same sc__law_same rfl rfl fun cdv A outer s H E hr =>
      (z_cons (st__law_same_6 Fc n rc ih cdv A outer s H E hr)
    (z_one (st__law_same_8 Fc n rc ih cdv A outer s H E hr)))
    exact rx _ ih
abbrev N__law_list : List Str := ["few", "first", "turn", "rests", "far", "found", "number", "piece", "lap"]
theorem sc__law_list : FnScope N__law_list ["few", "first", "turn", "rests", "far"] (defScope s__law_list) := ⟨rfl, rfl, rfl, by decide +kernel, rfl, by decide +kernel, by decide +kernel⟩
noncomputable def ms__law_list_0 : MS := (mAsg (mOp (fAdd true) (mOp (fMul false) (mLst false (mCons (mC (.bl false)) mNil)) (mV 1)) (mOp (fMul false) (mLst false (mCons (mC (.bl false)) mNil)) (mOp fSub (mV 4) (mV 1)))) (mgName 5))
theorem st__law_list_0 (Fc : Facts K mg) (cdv : Value) (A : Around) (outer : List Env) (s : Shared) (H : Hp) (E : XK) (hr : Room (0) (A.deeper (envOfC "_law_list" (defScope s__law_list) s.heap.objs.size Fc.a__law_list cdv))) : PS (cxOf CX0 P w K mg base N__law_list "_law_list" (defScope s__law_list) Fc.a__law_list cdv A outer s H E).nox (stmtAt (defBody s__law_list) 0) (sM ⟨K, P, w⟩ (ms__law_list_0)) :=
    (z_set 5 sc__law_list.nd rfl (by first | exact Or.inl rfl | exact Or.inr rfl) (x_add true (x_mul false (x_lst false (a_cons x_bl a_nil)) (x_v 1)) (x_mul false (x_lst false (a_cons x_bl a_nil)) (x_sub (x_v 4) (x_v 1)))))
noncomputable def ms__law_list_2 : MS := (mFor (miSeq (mV 0)) (.name 6)
    (mAsg (mC (.bl true)) (mgSub (mV 5) (mV 6) fSetL)))
theorem st__law_list_2 (Fc : Facts K mg) (cdv : Value) (A : Around) (outer : List Env) (s : Shared) (H : Hp) (E : XK) (hr : Room (0) (A.deeper (envOfC "_law_list" (defScope s__law_list) s.heap.objs.size Fc.a__law_list cdv))) : PS (cxOf CX0 P w K mg base N__law_list "_law_list" (defScope s__law_list) Fc.a__law_list cdv A outer s H E).nox (stmtAt (defBody s__law_list) 1) (sM ⟨K, P, w⟩ (ms__law_list_2)) :=
    (z_for PassesOwn.never rfl (i_seq (x_v 0)) (t_name 6 sc__law_list.nd rfl (by first | exact Or.inl rfl | exact Or.inr rfl))
    (z_one (z_asg x_bl (g_sub (x_v 5) (x_v 6)))))
noncomputable def ms__law_list_4 : MS := (mAsg (mLc false (miRng1 (mCons (mV 2) mNil)) (.name 8) mYes (mOp (fIn false) (mOp fMod (mCb fInt (mCons (mOp (fAdd false) (mV 1) (mV 8)) mNil)) (mV 2)) (mV 3)) [8]) (mgName 7))
theorem st__law_list_4 (Fc : Facts K mg) (cdv : Value) (A : Around) (outer : List Env) (s : Shared) (H : Hp) (E : XK) (hr : Room (0) (A.deeper (envOfC "_law_list" (defScope s__law_list) s.heap.objs.size Fc.a__law_list cdv))) : PS (cxOf CX0 P w K mg base N__law_list "_law_list" (defScope s__law_list) Fc.a__law_list cdv A outer s H E).nox (stmtAt (defBody s__law_list) 2) (sM ⟨K, P, w⟩ (ms__law_list_4)) :=
    (x_setLc false (i := 7) (T := (.name 8)) (own := [("lap", 8)]) rfl sc__law_list.nd rfl rfl (sw_true rfl rfl rfl (by decide +kernel)) (i_rng1 (by rfl) Fc.b_range (a_cons (x_v 2) a_nil)) (by first | exact blkOk_by (N := N__law_list) (sc := defScope s__law_list) (by decide +kernel) | exact blkOk_by (by kernel_rfl)) rfl (fun _ _ _ _ _ => (t_name 8 sc__law_list.nd rfl (by first | exact Or.inl rfl | exact Or.inr rfl))) (fun _ _ _ _ _ => cs_nil) (fun _ _ _ _ _ => (x_k k_in (x_mod (x_ct c_int (by rfl) Fc.b_int bt_int (a_cons (x_add false (x_v 1) (x_v 8)) a_nil)) (x_v 2)) (x_v 3))))
noncomputable def ms__law_list_6 : MS := (mAsg (mSl false (mOp (fMul false) (mV 7) (mOp (fAdd false) (mOp fDiv (mOp fSub (mV 4) (mV 1)) (mV 2)) (mC (.int 1)))) mNone (mSome (mOp fSub (mV 4) (mV 1)))) (mgTail (mV 5) (mSome (mV 1))))
theorem st__law_list_6 (Fc : Facts K mg) (cdv : Value) (A : Around) (outer : List Env) (s : Shared) (H : Hp) (E : XK) (hr : Room (0) (A.deeper (envOfC "_law_list" (defScope s__law_list) s.heap.objs.size Fc.a__law_list cdv))) : PS (cxOf CX0 P w K mg base N__law_list "_law_list" (defScope s__law_list) Fc.a__law_list cdv A outer s H E).nox (stmtAt (defBody s__law_list) 3) (sM ⟨K, P, w⟩ (ms__law_list_6)) :=
    (z_asg (x_sl false (x_mul false (x_v 7) (x_add false (x_fdiv (x_sub (x_v 4) (x_v 1)) (x_v 2)) x_int)) o_none (o_some (x_sub (x_v 4) (x_v 1)))) (g_tail (x_v 5) (o_some (x_v 1))))
noncomputable def m__law_list : List D → Sto → Option (D × Sto) := mDef 9 5 (mSeq (ms__law_list_0)
    (mSeq (ms__law_list_2)
    (mSeq (ms__law_list_4)
    (mSeq (ms__law_list_6)
    (mRet (mFrz (mV 5)))))))
theorem ok__law_list (Fc : Facts K mg) : FnOk P w K mg base CX0 1 Fc.a__law_list Fc.d__law_list ["few", "first", "turn", "rests", "far"] (spM ⟨K, P, w⟩ m__law_list) := x_def (k := 0) Fc.F__law_list sc__law_list rfl rfl fun cdv A outer s H E hr =>
    (z_cons (st__law_list_0 Fc cdv A outer s H E hr)
    (z_cons (st__law_list_2 Fc cdv A outer s H E hr)
    (z_cons (st__law_list_4 Fc cdv A outer s H E hr)
    (z_cons (st__law_list_6 Fc cdv A outer s H E hr)
    (z_one (z_ret (x_frz (x_v 5))))))))
abbrev N__law_form_of : List Str := ["found", "behind", "turn", "piece", "least", "at", "rests", "last", "lap", "number"]
theorem sc__law_form_of : FnScope N__law_form_of ["found", "behind", "turn"] (defScope s__law_form_of) := ⟨rfl, rfl, rfl, by decide +kernel, rfl, by decide +kernel, by decide +kernel⟩
noncomputable def ms__law_form_of_0 : MS := (mAsg (mCb fMaxL (mCons (mOp (fAdd false) (mLst false (mCons (mUn fNeg (mC (.int 1))) mNil)) (mLc false (miRng1 (mCons (mV 1) mNil)) (.name 5) (mT (mOp fIx (mV 0) (mV 5))) (mV 5) [5])) mNil)) (mgName 7))
theorem st__law_form_of_0 (Fc : Facts K mg) (cdv : Value) (A : Around) (outer : List Env) (s : Shared) (H : Hp) (E : XK) (hr : Room (0) (A.deeper (envOfC "_law_form_of" (defScope s__law_form_of) s.heap.objs.size Fc.a__law_form_of cdv))) : PS (cxOf CX0 P w K mg base N__law_form_of "_law_form_of" (defScope s__law_form_of) Fc.a__law_form_of cdv A outer s H E).nox (stmtAt (bodyOf (stmtAt (defBody s__law_form_of) 1)) 0) (sM ⟨K, P, w⟩ (ms__law_form_of_0)) :=
    (z_set 7 sc__law_form_of.nd rfl (by first | exact Or.inl rfl | exact Or.inr rfl) (x_cb c_max (by rfl) Fc.b_max bt_max (a_cons (x_add false (x_lst false (a_cons (x_neg x_int) a_nil)) (x_lc false (T := (.name 5)) (own := [("at", 5)]) rfl sc__law_form_of.nd (i_rng1 (by rfl) Fc.b_range (a_cons (x_v 1) a_nil)) (by first | exact blkOk_by (N := N__law_form_of) (sc := defScope s__law_form_of) (by decide +kernel) | exact blkOk_by (by kernel_rfl)) rfl (fun _ _ _ _ _ => (t_name 5 sc__law_form_of.nd rfl (by first | exact Or.inl rfl | exact Or.inr rfl))) (fun _ _ _ _ _ => (cs_one (y_t (x_ix (x_v 0) (x_v 5))))) (fun _ _ _ _ _ => (x_v 5)))) a_nil)))
noncomputable def ms__law_form_of_2 : MS := (mRet (mTup (mCons (mCb fTuple (mCons (mLc false (miRng1 (mCons (mOp (fAdd false) (mV 7) (mC (.int 1))) mNil)) (.name 5) (mT (mOp fIx (mV 0) (mV 5))) (mV 5) [5]) mNil)) (mCons (mOp (fAdd false) (mV 7) (mC (.int 1))) (mCons (mC (.int 1)) (mCons (mTup mNil) mNil))))))
theorem st__law_form_of_2 (Fc : Facts K mg) (cdv : Value) (A : Around) (outer : List Env) (s : Shared) (H : Hp) (E : XK) (hr : Room (0) (A.deeper (envOfC "_law_form_of" (defScope s__law_form_of) s.heap.objs.size Fc.a__law_form_of cdv))) : PS (cxOf CX0 P w K mg base N__law_form_of "_law_form_of" (defScope s__law_form_of) Fc.a__law_form_of cdv A outer s H E).nox (stmtAt (bodyOf (stmtAt (defBody s__law_form_of) 1)) 1) (sM ⟨K, P, w⟩ (ms__law_form_of_2)) :=
    (z_ret (x_tup (a_cons (x_ct c_tuple (by rfl) Fc.b_tuple bt_tuple (a_cons (x_lc false (T := (.name 5)) (own := [("at", 5)]) rfl sc__law_form_of.nd (i_rng1 (by rfl) Fc.b_range (a_cons (x_add false (x_v 7) x_int) a_nil)) (by first | exact blkOk_by (N := N__law_form_of) (sc := defScope s__law_form_of) (by decide +kernel) | exact blkOk_by (by kernel_rfl)) rfl (fun _ _ _ _ _ => (t_name 5 sc__law_form_of.nd rfl (by first | exact Or.inl rfl | exact Or.inr rfl))) (fun _ _ _ _ _ => (cs_one (y_t (x_ix (x_v 0) (x_v 5))))) (fun _ _ _ _ _ => (x_v 5))) a_nil)) (a_cons (x_add false (x_v 7) x_int) (a_cons x_int (a_cons (x_tup a_nil) a_nil))))))
noncomputable def ms__law_form_of_4 : MS := (mIfS (mAnd (mTB (mOp fEq (mOp fMod (mV 2) (mV 4)) (mC (.int 0)))) (mTB (mOp fEq (mOp (fAdd false) (mSl false (mV 3) (mSome (mV 4)) mNone) (mSl false (mV 3) mNone (mSome (mV 4)))) (mV 3))))
    mBreak
    mNext)
theorem st__law_form_of_4 (Fc : Facts K mg) (cdv : Value) (A : Around) (outer : List Env) (s : Shared) (H : Hp) (E : XK) (hr : Room (0) (A.deeper (envOfC "_law_form_of" (defScope s__law_form_of) s.heap.objs.size Fc.a__law_form_of cdv))) : PS (cxOf CX0 P w K mg base N__law_form_of "_law_form_of" (defScope s__law_form_of) Fc.a__law_form_of cdv A outer s H E).nox (stmtAt (bodyOf (stmtAt (defBody s__law_form_of) 2)) 0) (sM ⟨K, P, w⟩ (ms__law_form_of_4)) :=
    (z_if (y_and (y_k (k_eq hr) (x_mod (x_v 2) (x_v 4)) x_int) (y_and1 (y_k (k_eq hr) (x_add false (x_sl false (x_v 3) (o_some (x_v 4)) o_none) (x_sl false (x_v 3) o_none (o_some (x_v 4)))) (x_v 3)))).pt
    (z_one z_break)
    z_nil)
noncomputable def ms__law_form_of_6 : MS := (mAsg (mSl false (mV 0) (mSome (mV 1)) (mSome (mOp (fAdd false) (mV 1) (mV 2)))) (mgName 3))
theorem st__law_form_of_6 (Fc : Facts K mg) (cdv : Value) (A : Around) (outer : List Env) (s : Shared) (H : Hp) (E : XK) (hr : Room (0) (A.deeper (envOfC "_law_form_of" (defScope s__law_form_of) s.heap.objs.size Fc.a__law_form_of cdv))) : PS (cxOf CX0 P w K mg base N__law_form_of "_law_form_of" (defScope s__law_form_of) Fc.a__law_form_of cdv A outer s H E).nox (stmtAt (defBody s__law_form_of) 0) (sM ⟨K, P, w⟩ (ms__law_form_of_6)) :=
    (z_set 3 sc__law_form_of.nd rfl (by first | exact Or.inl rfl | exact Or.inr rfl) (x_sl false (x_v 0) (o_some (x_v 1)) (o_some (x_add false (x_v 1) (x_v 2)))))
noncomputable def ms__law_form_of_8 : MS := (mIfS (mTB (mOp (fIn true) (mC (.bl true)) (mV 3)))
    (mSeq (ms__law_form_of_0)
    (ms__law_form_of_2))
    mNext)
theorem st__law_form_of_8 (Fc : Facts K mg) (cdv : Value) (A : Around) (outer : List Env) (s : Shared) (H : Hp) (E : XK) (hr : Room (0) (A.deeper (envOfC "_law_form_of" (defScope s__law_form_of) s.heap.objs.size Fc.a__law_form_of cdv))) : PS (cxOf CX0 P w K mg base N__law_form_of "_law_form_of" (defScope s__law_form_of) Fc.a__law_form_of cdv A outer s H E).nox (stmtAt (defBody s__law_form_of) 1) (sM ⟨K, P, w⟩ (ms__law_form_of_8)) :=
    (z_if (y_k k_ni x_bl (x_v 3))
    (z_cons (st__law_form_of_0 Fc cdv A outer s H E hr)
    (z_one (st__law_form_of_2 Fc cdv A outer s H E hr)))
    z_nil)
noncomputable def ms__law_form_of_10 : MS := (mFor (miRng2 (mCons (mC (.int 1)) (mCons (mOp (fAdd false) (mV 2) (mC (.int 1))) mNil))) (.name 4)
    (ms__law_form_of_4))
theorem st__law_form_of_10 (Fc : Facts K mg) (cdv : Value) (A : Around) (outer : List Env) (s : Shared) (H : Hp) (E : XK) (hr : Room (0) (A.deeper (envOfC "_law_form_of" (defScope s__law_form_of) s.heap.objs.size Fc.a__law_form_of cdv))) : PS (cxOf CX0 P w K mg base N__law_form_of "_law_form_of" (defScope s__law_form_of) Fc.a__law_form_of cdv A outer s H E).nox (stmtAt (defBody s__law_form_of) 2) (sM ⟨K, P, w⟩ (ms__law_form_of_10)) :=
    (z_for PassesOwn.never rfl (i_rng2 (by rfl) Fc.b_range (a_cons x_int (a_cons (x_add false (x_v 2) x_int) a_nil))) (t_name 4 sc__law_form_of.nd rfl (by first | exact Or.inl rfl | exact Or.inr rfl))
    (z_one (st__law_form_of_4 Fc cdv A outer s H E hr)))
noncomputable def ms__law_form_of_12 : MS := (mWh (mAnd (mTB (mOp fGt (mV 5) (mC (.int 0)))) (mTB (mOp fEq (mOp fIx (mV 0) (mOp fSub (mV 5) (mC (.int 1)))) (mOp fIx (mV 0) (mOp (fAdd false) (mOp fSub (mV 5) (mC (.int 1))) (mV 4))))))
    (mAsg (mOp fSub (mV 5) (mC (.int 1))) (mgName 5)))
theorem st__law_form_of_12 (Fc : Facts K mg) (cdv : Value) (A : Around) (outer : List Env) (s : Shared) (H : Hp) (E : XK) (hr : Room (0) (A.deeper (envOfC "_law_form_of" (defScope s__law_form_of) s.heap.objs.size Fc.a__law_form_of cdv))) : PS (cxOf CX0 P w K mg base N__law_form_of "_law_form_of" (defScope s__law_form_of) Fc.a__law_form_of cdv A outer s H E).nox (stmtAt (defBody s__law_form_of) 4) (sM ⟨K, P, w⟩ (ms__law_form_of_12)) :=
    (z_while PassesOwn.never (y_and (y_k k_gt (x_v 5) x_int) (y_and1 (y_k (k_eq hr) (x_ix (x_v 0) (x_sub (x_v 5) x_int)) (x_ix (x_v 0) (x_add false (x_sub (x_v 5) x_int) (x_v 4)))))).pt
    (z_one (z_set 5 sc__law_form_of.nd rfl (by first | exact Or.inl rfl | exact Or.inr rfl) (x_sub (x_v 5) x_int))))
noncomputable def ms__law_form_of_14 : MS := (mAsg (mCb (fSorted false) (mCons (mLc false (miRng1 (mCons (mV 4) mNil)) (.name 8) (mT (mOp fIx (mV 0) (mOp (fAdd false) (mV 5) (mV 8)))) (mOp fMod (mCb fInt (mCons (mOp (fAdd false) (mV 5) (mV 8)) mNil)) (mV 4)) [8]) mNil)) (mgName 6))
theorem st__law_form_of_14 (Fc : Facts K mg) (cdv : Value) (A : Around) (outer : List Env) (s : Shared) (H : Hp) (E : XK) (hr : Room (0) (A.deeper (envOfC "_law_form_of" (defScope s__law_form_of) s.heap.objs.size Fc.a__law_form_of cdv))) : PS (cxOf CX0 P w K mg base N__law_form_of "_law_form_of" (defScope s__law_form_of) Fc.a__law_form_of cdv A outer s H E).nox (stmtAt (defBody s__law_form_of) 5) (sM ⟨K, P, w⟩ (ms__law_form_of_14)) :=
    (z_set 6 sc__law_form_of.nd rfl (by first | exact Or.inl rfl | exact Or.inr rfl) (x_cb (c_sorted false) (by rfl) Fc.b_sorted bt_sorted (a_cons (x_lc false (T := (.name 8)) (own := [("lap", 8)]) rfl sc__law_form_of.nd (i_rng1 (by rfl) Fc.b_range (a_cons (x_v 4) a_nil)) (by first | exact blkOk_by (N := N__law_form_of) (sc := defScope s__law_form_of) (by decide +kernel) | exact blkOk_by (by kernel_rfl)) rfl (fun _ _ _ _ _ => (t_name 8 sc__law_form_of.nd rfl (by first | exact Or.inl rfl | exact Or.inr rfl))) (fun _ _ _ _ _ => (cs_one (y_t (x_ix (x_v 0) (x_add false (x_v 5) (x_v 8)))))) (fun _ _ _ _ _ => (x_mod (x_ct c_int (by rfl) Fc.b_int bt_int (a_cons (x_add false (x_v 5) (x_v 8)) a_nil)) (x_v 4)))) a_nil)))
noncomputable def ms__law_form_of_16 : MS := (mRet (mTup (mCons (mCb fTuple (mCons (mLc false (miRng1 (mCons (mV 5) mNil)) (.name 9) (mT (mOp fIx (mV 0) (mV 9))) (mV 9) [9]) mNil)) (mCons (mV 5) (mCons (mV 4) (mCons (mCb fTuple (mCons (mV 6) mNil)) mNil))))))
theorem st__law_form_of_16 (Fc : Facts K mg) (cdv : Value) (A : Around) (outer : List Env) (s : Shared) (H : Hp) (E : XK) (hr : Room (0) (A.deeper (envOfC "_law_form_of" (defScope s__law_form_of) s.heap.objs.size Fc.a__law_form_of cdv))) : PS (cxOf CX0 P w K mg base N__law_form_of "_law_form_of" (defScope s__law_form_of) Fc.a__law_form_of cdv A outer s H E).nox (stmtAt (defBody s__law_form_of) 6) (sM ⟨K, P, w⟩ (ms__law_form_of_16)) :=
    (z_ret (x_tup (a_cons (x_ct c_tuple (by rfl) Fc.b_tuple bt_tuple (a_cons (x_lc false (T := (.name 9)) (own := [("number", 9)]) rfl sc__law_form_of.nd (i_rng1 (by rfl) Fc.b_range (a_cons (x_v 5) a_nil)) (by first | exact blkOk_by (N := N__law_form_of) (sc := defScope s__law_form_of) (by decide +kernel) | exact blkOk_by (by kernel_rfl)) rfl (fun _ _ _ _ _ => (t_name 9 sc__law_form_of.nd rfl (by first | exact Or.inl rfl | exact Or.inr rfl))) (fun _ _ _ _ _ => (cs_one (y_t (x_ix (x_v 0) (x_v 9))))) (fun _ _ _ _ _ => (x_v 9))) a_nil)) (a_cons (x_v 5) (a_cons (x_v 4) (a_cons (x_ct c_tuple (by rfl) Fc.b_tuple bt_tuple (a_cons (x_v 6) a_nil)) a_nil))))))
noncomputable def m__law_form_of : List D → Sto → Option (D × Sto) := mDef 10 3 (mSeq (ms__law_form_of_6)
    (mSeq (ms__law_form_of_8)
    (mSeq (ms__law_form_of_10)
    (mSeq (mAsg (mV 1) (mgName 5))
    (mSeq (ms__law_form_of_12)
    (mSeq (ms__law_form_of_14)
    (ms__law_form_of_16)))))))
theorem ok__law_form_of (Fc : Facts K mg) : FnOk P w K mg base CX0 1 Fc.a__law_form_of Fc.d__law_form_of ["found", "behind", "turn"] (spM ⟨K, P, w⟩ m__law_form_of) := x_def (k := 0) Fc.F__law_form_of sc__law_form_of rfl rfl fun cdv A outer s H E hr =>
    (z_cons (st__law_form_of_6 Fc cdv A outer s H E hr)
    (z_cons (st__law_form_of_8 Fc cdv A outer s H E hr)
    (z_cons (st__law_form_of_10 Fc cdv A outer s H E hr)
    (z_cons (z_set 5 sc__law_form_of.nd rfl (by first | exact Or.inl rfl | exact Or.inr rfl) (x_v 1))
    (z_cons (st__law_form_of_12 Fc cdv A outer s H E hr)
    (z_cons (st__law_form_of_14 Fc cdv A outer s H E hr)
    (z_one (st__law_form_of_16 Fc cdv A outer s H E hr))))))))
abbrev N__law_common : List Str := ["one", "other", "found"]
theorem sc__law_common : FnScope N__law_common ["one", "other"] (defScope s__law_common) := ⟨rfl, rfl, rfl, by decide +kernel, rfl, by decide +kernel, by decide +kernel⟩
noncomputable def ms__law_common_0 : MS := (mWh (mTB (mOp fNe (mOp fMod (mV 2) (mV 1)) (mC (.int 0))))
    (mAsg (mOp (fAdd false) (mV 2) (mV 0)) (mgName 2)))
theorem st__law_common_0 (Fc : Facts K mg) (cdv : Value) (A : Around) (outer : List Env) (s : Shared) (H : Hp) (E : XK) (hr : Room (0) (A.deeper (envOfC "_law_common" (defScope s__law_common) s.heap.objs.size Fc.a__law_common cdv))) : PS (cxOf CX0 P w K mg base N__law_common "_law_common" (defScope s__law_common) Fc.a__law_common cdv A outer s H E).nox (stmtAt (defBody s__law_common) 1) (sM ⟨K, P, w⟩ (ms__law_common_0)) :=
    (z_while PassesOwn.never (y_k (k_ne hr) (x_mod (x_v 2) (x_v 1)) x_int)
    (z_one (z_set 2 sc__law_common.nd rfl (by first | exact Or.inl rfl | exact Or.inr rfl) (x_add false (x_v 2) (x_v 0)))))
noncomputable def m__law_common : List D → Sto → Option (D × Sto) := mDef 3 2 (mSeq (mAsg (mV 0) (mgName 2))
    (mSeq (ms__law_common_0)
    (mRet (mV 2))))
theorem ok__law_common (Fc : Facts K mg) : FnOk P w K mg base CX0 1 Fc.a__law_common Fc.d__law_common ["one", "other"] (spM ⟨K, P, w⟩ m__law_common) := x_def (k := 0) Fc.F__law_common sc__law_common rfl rfl fun cdv A outer s H E hr =>
    (z_cons (z_set 2 sc__law_common.nd rfl (by first | exact Or.inl rfl | exact Or.inr rfl) (x_v 0))
    (z_cons (st__law_common_0 Fc cdv A outer s H E hr)
    (z_one (z_ret (x_v 2)))))
abbrev N__law_drawn : List Str := ["drum", "wide", "turn", "first", "habit", "found", "piece", "at", "lap"]
theorem sc__law_drawn : FnScope N__law_drawn ["drum", "wide"] (defScope s__law_drawn) := ⟨rfl, rfl, rfl, by decide +kernel, rfl, by decide +kernel, by decide +kernel⟩
noncomputable def ms__law_drawn_0 : MS := (mAsg (mIf (mT (mV 1)) (mOp (fAdd false) (mC (.int 59)) (mCb m__law_beat (mCons (mV 0) (mCons (mC (.int 2)) mNil)))) (mOp fIx (mTup (mCons (mC (.int 1)) (mCons (mC (.int 1)) (mCons (mC (.int 2)) (mCons (mC (.int 3)) (mCons (mC (.int 4)) (mCons (mC (.int 5)) (mCons (mC (.int 6)) (mCons (mC (.int 10)) mNil))))))))) (mCb m__law_beat (mCons (mV 0) (mCons (mC (.int 8)) mNil))))) (mgName 2))
theorem st__law_drawn_0 (Fc : Facts K mg) (cdv : Value) (A : Around) (outer : List Env) (s : Shared) (H : Hp) (E : XK) (hr : Room (1) (A.deeper (envOfC "_law_drawn" (defScope s__law_drawn) s.heap.objs.size Fc.a__law_drawn cdv))) : PS (cxOf CX0 P w K mg base N__law_drawn "_law_drawn" (defScope s__law_drawn) Fc.a__law_drawn cdv A outer s H E).nox (stmtAt (defBody s__law_drawn) 0) (sM ⟨K, P, w⟩ (ms__law_drawn_0)) :=
    (z_set 2 sc__law_drawn.nd rfl (by first | exact Or.inl rfl | exact Or.inr rfl) (x_if (y_t (x_v 1)) (x_add false x_int (x_call (ok__law_beat Fc) (hr.mono (by decide)) (by rfl) Fc.g__law_beat Fc.F__law_beat.kp (b__law_beat Fc) (a_cons (x_v 0) (a_cons x_int a_nil)))) (x_ix (x_tup (a_cons x_int (a_cons x_int (a_cons x_int (a_cons x_int (a_cons x_int (a_cons x_int (a_cons x_int (a_cons x_int a_nil))))))))) (x_call (ok__law_beat Fc) (hr.mono (by decide)) (by rfl) Fc.g__law_beat Fc.F__law_beat.kp (b__law_beat Fc) (a_cons (x_v 0) (a_cons x_int a_nil))))))
noncomputable def ms__law_drawn_2 : MS := (mAsg (mIf (mT (mV 1)) (mOp (fMul false) (mC (.int 400)) (mCb m__law_beat (mCons (mV 0) (mCons (mC (.int 2)) mNil)))) (mOp fIx (mTup (mCons (mC (.int 0)) (mCons (mC (.int 0)) (mCons (mC (.int 1)) (mCons (mC (.int 5)) (mCons (mCb m__law_beat (mCons (mV 0) (mCons (mC (.int 25)) mNil))) mNil)))))) (mCb m__law_beat (mCons (mV 0) (mCons (mC (.int 5)) mNil))))) (mgName 3))
theorem st__law_drawn_2 (Fc : Facts K mg) (cdv : Value) (A : Around) (outer : List Env) (s : Shared) (H : Hp) (E : XK) (hr : Room (1) (A.deeper (envOfC "_law_drawn" (defScope s__law_drawn) s.heap.objs.size Fc.a__law_drawn cdv))) : PS (cxOf CX0 P w K mg base N__law_drawn "_law_drawn" (defScope s__law_drawn) Fc.a__law_drawn cdv A outer s H E).nox (stmtAt (defBody s__law_drawn) 1) (sM ⟨K, P, w⟩ (ms__law_drawn_2)) :=
    (z_set 3 sc__law_drawn.nd rfl (by first | exact Or.inl rfl | exact Or.inr rfl) (x_if (y_t (x_v 1)) (x_mul false x_int (x_call (ok__law_beat Fc) (hr.mono (by decide)) (by rfl) Fc.g__law_beat Fc.F__law_beat.kp (b__law_beat Fc) (a_cons (x_v 0) (a_cons x_int a_nil)))) (x_ix (x_tup (a_cons x_int (a_cons x_int (a_cons x_int (a_cons x_int (a_cons (x_call (ok__law_beat Fc) (hr.mono (by decide)) (by rfl) Fc.g__law_beat Fc.F__law_beat.kp (b__law_beat Fc) (a_cons (x_v 0) (a_cons x_int a_nil))) a_nil)))))) (x_call (ok__law_beat Fc) (hr.mono (by decide)) (by rfl) Fc.g__law_beat Fc.F__law_beat.kp (b__law_beat Fc) (a_cons (x_v 0) (a_cons x_int a_nil))))))
noncomputable def ms__law_drawn_4 : MS := (mAsg (mCb m__law_beat (mCons (mV 0) (mCons (mC (.int 4)) mNil))) (mgName 4))
theorem st__law_drawn_4 (Fc : Facts K mg) (cdv : Value) (A : Around) (outer : List Env) (s : Shared) (H : Hp) (E : XK) (hr : Room (1) (A.deeper (envOfC "_law_drawn" (defScope s__law_drawn) s.heap.objs.size Fc.a__law_drawn cdv))) : PS (cxOf CX0 P w K mg base N__law_drawn "_law_drawn" (defScope s__law_drawn) Fc.a__law_drawn cdv A outer s H E).nox (stmtAt (defBody s__law_drawn) 2) (sM ⟨K, P, w⟩ (ms__law_drawn_4)) :=
    (z_set 4 sc__law_drawn.nd rfl (by first | exact Or.inl rfl | exact Or.inr rfl) (x_call (ok__law_beat Fc) (hr.mono (by decide)) (by rfl) Fc.g__law_beat Fc.F__law_beat.kp (b__law_beat Fc) (a_cons (x_v 0) (a_cons x_int a_nil))))
noncomputable def ms__law_drawn_6 : MS := (mAsg (mLc false (miRng1 (mCons (mV 3) mNil)) (.name 7) mYes (mAndV (mOp fLt (mCb m__law_beat (mCons (mV 0) (mCons (mC (.int 4)) mNil))) (mV 4)) (mOrV (mNotV (mV 1)) (mOp fEq (mOp fMod (mV 7) (mC (.int 2))) (mC (.int 0))))) [7]) (mgName 5))
theorem st__law_drawn_6 (Fc : Facts K mg) (cdv : Value) (A : Around) (outer : List Env) (s : Shared) (H : Hp) (E : XK) (hr : Room (1) (A.deeper (envOfC "_law_drawn" (defScope s__law_drawn) s.heap.objs.size Fc.a__law_drawn cdv))) : PS (cxOf CX0 P w K mg base N__law_drawn "_law_drawn" (defScope s__law_drawn) Fc.a__law_drawn cdv A outer s H E).nox (stmtAt (defBody s__law_drawn) 3) (sM ⟨K, P, w⟩ (ms__law_drawn_6)) :=
    (x_setLc false (i := 5) (T := (.name 7)) (own := [("at", 7)]) rfl sc__law_drawn.nd rfl rfl (sw_true rfl rfl rfl (by decide +kernel)) (i_rng1 (by rfl) Fc.b_range (a_cons (x_v 3) a_nil)) (by first | exact blkOk_by (N := N__law_drawn) (sc := defScope s__law_drawn) (by decide +kernel) | exact blkOk_by (by kernel_rfl)) rfl (fun _ _ _ _ _ => (t_name 7 sc__law_drawn.nd rfl (by first | exact Or.inl rfl | exact Or.inr rfl))) (fun _ _ _ _ _ => cs_nil) (fun _ _ _ _ _ => (x_and (x_k k_lt (x_call (ok__law_beat Fc) (hr.mono (by decide)) (by rfl) Fc.g__law_beat Fc.F__law_beat.kp (b__law_beat Fc) (a_cons (x_v 0) (a_cons x_int a_nil))) (x_v 4)) (x_one (x_or (x_not (x_v 1)) (x_one (x_k (k_eq hr) (x_mod (x_v 7) x_int) x_int)))))))
noncomputable def ms__law_drawn_8 : MS := (mAsg (mCb m__law_beat (mCons (mV 0) (mCons (mC (.int 4)) mNil))) (mgName 4))
theorem st__law_drawn_8 (Fc : Facts K mg) (cdv : Value) (A : Around) (outer : List Env) (s : Shared) (H : Hp) (E : XK) (hr : Room (1) (A.deeper (envOfC "_law_drawn" (defScope s__law_drawn) s.heap.objs.size Fc.a__law_drawn cdv))) : PS (cxOf CX0 P w K mg base N__law_drawn "_law_drawn" (defScope s__law_drawn) Fc.a__law_drawn cdv A outer s H E).nox (stmtAt (defBody s__law_drawn) 4) (sM ⟨K, P, w⟩ (ms__law_drawn_8)) :=
    (z_set 4 sc__law_drawn.nd rfl (by first | exact Or.inl rfl | exact Or.inr rfl) (x_call (ok__law_beat Fc) (hr.mono (by decide)) (by rfl) Fc.g__law_beat Fc.F__law_beat.kp (b__law_beat Fc) (a_cons (x_v 0) (a_cons x_int a_nil))))
noncomputable def ms__law_drawn_10 : MS := (mAsg (mLc false (miRng1 (mCons (mV 2) mNil)) (.name 8) mYes (mOp fLt (mCb m__law_beat (mCons (mV 0) (mCons (mC (.int 4)) mNil))) (mV 4)) [8]) (mgName 6))
theorem st__law_drawn_10 (Fc : Facts K mg) (cdv : Value) (A : Around) (outer : List Env) (s : Shared) (H : Hp) (E : XK) (hr : Room (1) (A.deeper (envOfC "_law_drawn" (defScope s__law_drawn) s.heap.objs.size Fc.a__law_drawn cdv))) : PS (cxOf CX0 P w K mg base N__law_drawn "_law_drawn" (defScope s__law_drawn) Fc.a__law_drawn cdv A outer s H E).nox (stmtAt (defBody s__law_drawn) 5) (sM ⟨K, P, w⟩ (ms__law_drawn_10)) :=
    (x_setLc false (i := 6) (T := (.name 8)) (own := [("lap", 8)]) rfl sc__law_drawn.nd rfl rfl (sw_true rfl rfl rfl (by decide +kernel)) (i_rng1 (by rfl) Fc.b_range (a_cons (x_v 2) a_nil)) (by first | exact blkOk_by (N := N__law_drawn) (sc := defScope s__law_drawn) (by decide +kernel) | exact blkOk_by (by kernel_rfl)) rfl (fun _ _ _ _ _ => (t_name 8 sc__law_drawn.nd rfl (by first | exact Or.inl rfl | exact Or.inr rfl))) (fun _ _ _ _ _ => cs_nil) (fun _ _ _ _ _ => (x_k k_lt (x_call (ok__law_beat Fc) (hr.mono (by decide)) (by rfl) Fc.g__law_beat Fc.F__law_beat.kp (b__law_beat Fc) (a_cons (x_v 0) (a_cons x_int a_nil))) (x_v 4))))
noncomputable def ms__law_drawn_12 : MS := (mRet (mCb m__law_form_of (mCons (mOp (fAdd false) (mV 5) (mOp (fMul false) (mV 6) (mC (.int 3)))) (mCons (mV 3) (mCons (mV 2) mNil)))))
theorem st__law_drawn_12 (Fc : Facts K mg) (cdv : Value) (A : Around) (outer : List Env) (s : Shared) (H : Hp) (E : XK) (hr : Room (1) (A.deeper (envOfC "_law_drawn" (defScope s__law_drawn) s.heap.objs.size Fc.a__law_drawn cdv))) : PS (cxOf CX0 P w K mg base N__law_drawn "_law_drawn" (defScope s__law_drawn) Fc.a__law_drawn cdv A outer s H E).nox (stmtAt (defBody s__law_drawn) 6) (sM ⟨K, P, w⟩ (ms__law_drawn_12)) :=
    (z_ret (x_call (ok__law_form_of Fc) (hr.mono (by decide)) (by rfl) Fc.g__law_form_of Fc.F__law_form_of.kp (b__law_form_of Fc) (a_cons (x_add false (x_v 5) (x_mul false (x_v 6) x_int)) (a_cons (x_v 3) (a_cons (x_v 2) a_nil)))))
noncomputable def m__law_drawn : List D → Sto → Option (D × Sto) := mDef 9 2 (mSeq (ms__law_drawn_0)
    (mSeq (ms__law_drawn_2)
    (mSeq (ms__law_drawn_4)
    (mSeq (ms__law_drawn_6)
    (mSeq (ms__law_drawn_8)
    (mSeq (ms__law_drawn_10)
    (ms__law_drawn_12)))))))
theorem ok__law_drawn (Fc : Facts K mg) : FnOk P w K mg base CX0 2 Fc.a__law_drawn Fc.d__law_drawn ["drum", "wide"] (spM ⟨K, P, w⟩ m__law_drawn) := x_def (k := 1) Fc.F__law_drawn sc__law_drawn rfl rfl fun cdv A outer s H E hr =>
    (z_cons (st__law_drawn_0 Fc cdv A outer s H E hr)
    (z_cons (st__law_drawn_2 Fc cdv A outer s H E hr)
    (z_cons (st__law_drawn_4 Fc cdv A outer s H E hr)
    (z_cons (st__law_drawn_6 Fc cdv A outer s H E hr)
    (z_cons (st__law_drawn_8 Fc cdv A outer s H E hr)
    (z_cons (st__law_drawn_10 Fc cdv A outer s H E hr)
    (z_one (st__law_drawn_12 Fc cdv A outer s H E hr))))))))
abbrev N__law_asked : List Str := ["one", "other", "turn", "behind", "far", "both", "shared", "rest", "back", "told", "left", "right", "at"]
theorem sc__law_asked : FnScope N__law_asked ["one", "other"] (defScope s__law_asked) := ⟨rfl, rfl, rfl, by decide +kernel, rfl, by decide +kernel, by decide +kernel⟩
noncomputable def ms__law_asked_0 : MS := (mAsg (mCb m__law_common (mCons (mOp fIx (mV 0) (mC (.int 2))) (mCons (mOp fIx (mV 1) (mC (.int 2))) mNil))) (mgName 2))
theorem st__law_asked_0 (Fc : Facts K mg) (cdv : Value) (A : Around) (outer : List Env) (s : Shared) (H : Hp) (E : XK) (hr : Room (5) (A.deeper (envOfC "_law_asked" (defScope s__law_asked) s.heap.objs.size Fc.a__law_asked cdv))) : PS (cxOf CX0 P w K mg base N__law_asked "_law_asked" (defScope s__law_asked) Fc.a__law_asked cdv A outer s H E).nox (stmtAt (defBody s__law_asked) 0) (sM ⟨K, P, w⟩ (ms__law_asked_0)) :=
    (z_set 2 sc__law_asked.nd rfl (by first | exact Or.inl rfl | exact Or.inr rfl) (x_call (ok__law_common Fc) (hr.mono (by decide)) (by rfl) Fc.g__law_common Fc.F__law_common.kp (b__law_common Fc) (a_cons (x_ix (x_v 0) x_int) (a_cons (x_ix (x_v 1) x_int) a_nil))))
noncomputable def ms__law_asked_2 : MS := (mAsg (mCb fMaxL (mCons (mOp fIx (mV 0) (mC (.int 1))) (mCons (mOp fIx (mV 1) (mC (.int 1))) mNil))) (mgName 3))
theorem st__law_asked_2 (Fc : Facts K mg) (cdv : Value) (A : Around) (outer : List Env) (s : Shared) (H : Hp) (E : XK) (hr : Room (5) (A.deeper (envOfC "_law_asked" (defScope s__law_asked) s.heap.objs.size Fc.a__law_asked cdv))) : PS (cxOf CX0 P w K mg base N__law_asked "_law_asked" (defScope s__law_asked) Fc.a__law_asked cdv A outer s H E).nox (stmtAt (defBody s__law_asked) 1) (sM ⟨K, P, w⟩ (ms__law_asked_2)) :=
    (z_set 3 sc__law_asked.nd rfl (by first | exact Or.inl rfl | exact Or.inr rfl) (x_cb c_max (by rfl) Fc.b_max bt_max (a_cons (x_ix (x_v 0) x_int) (a_cons (x_ix (x_v 1) x_int) a_nil))))
noncomputable def ms__law_asked_4 : MS := (mAsg (mTup (mCons (mCb m__law_list (mCons (mOp fIx (mV 0) (mC (.int 0))) (mCons (mOp fIx (mV 0) (mC (.int 1))) (mCons (mOp fIx (mV 0) (mC (.int 2))) (mCons (mOp fIx (mV 0) (mC (.int 3))) (mCons (mV 4) mNil)))))) (mCons (mCb m__law_list (mCons (mOp fIx (mV 1) (mC (.int 0))) (mCons (mOp fIx (mV 1) (mC (.int 1))) (mCons (mOp fIx (mV 1) (mC (.int 2))) (mCons (mOp fIx (mV 1) (mC (.int 3))) (mCons (mV 4) mNil)))))) mNil))) (mgTup 2 (mgCons (mgT (.name 10)) (mgCons (mgT (.name 11)) mgNil))))
theorem st__law_asked_4 (Fc : Facts K mg) (cdv : Value) (A : Around) (outer : List Env) (s : Shared) (H : Hp) (E : XK) (hr : Room (5) (A.deeper (envOfC "_law_asked" (defScope s__law_asked) s.heap.objs.size Fc.a__law_asked cdv))) : PS (cxOf CX0 P w K mg base N__law_asked "_law_asked" (defScope s__law_asked) Fc.a__law_asked cdv A outer s H E).nox (stmtAt (defBody s__law_asked) 3) (sM ⟨K, P, w⟩ (ms__law_asked_4)) :=
    (z_asg (x_tup (a_cons (x_call (ok__law_list Fc) (hr.mono (by decide)) (by rfl) Fc.g__law_list Fc.F__law_list.kp (b__law_list Fc) (a_cons (x_ix (x_v 0) x_int) (a_cons (x_ix (x_v 0) x_int) (a_cons (x_ix (x_v 0) x_int) (a_cons (x_ix (x_v 0) x_int) (a_cons (x_v 4) a_nil)))))) (a_cons (x_call (ok__law_list Fc) (hr.mono (by decide)) (by rfl) Fc.g__law_list Fc.F__law_list.kp (b__law_list Fc) (a_cons (x_ix (x_v 1) x_int) (a_cons (x_ix (x_v 1) x_int) (a_cons (x_ix (x_v 1) x_int) (a_cons (x_ix (x_v 1) x_int) (a_cons (x_v 4) a_nil)))))) a_nil))) (g_tup (n := 2) rfl (g_cons (g_T (t_name 10 sc__law_asked.nd rfl (by first | exact Or.inl rfl | exact Or.inr rfl))) (g_cons (g_T (t_name 11 sc__law_asked.nd rfl (by first | exact Or.inl rfl | exact Or.inr rfl))) g_nil))))
noncomputable def ms__law_asked_6 : MS := (mAsg (mCb m__law_form_of (mCons (mLc false (miRng1 (mCons (mV 4) mNil)) (.name 12) mYes (mOrV (mOp fIx (mV 10) (mV 12)) (mOp fIx (mV 11) (mV 12))) [12]) (mCons (mV 3) (mCons (mV 2) mNil)))) (mgName 5))
theorem st__law_asked_6 (Fc : Facts K mg) (cdv : Value) (A : Around) (outer : List Env) (s : Shared) (H : Hp) (E : XK) (hr : Room (5) (A.deeper (envOfC "_law_asked" (defScope s__law_asked) s.heap.objs.size Fc.a__law_asked cdv))) : PS (cxOf CX0 P w K mg base N__law_asked "_law_asked" (defScope s__law_asked) Fc.a__law_asked cdv A outer s H E).nox (stmtAt (defBody s__law_asked) 4) (sM ⟨K, P, w⟩ (ms__law_asked_6)) :=
    (z_set 5 sc__law_asked.nd rfl (by first | exact Or.inl rfl | exact Or.inr rfl) (x_call (ok__law_form_of Fc) (hr.mono (by decide)) (by rfl) Fc.g__law_form_of Fc.F__law_form_of.kp (b__law_form_of Fc) (a_cons (x_lc false (T := (.name 12)) (own := [("at", 12)]) rfl sc__law_asked.nd (i_rng1 (by rfl) Fc.b_range (a_cons (x_v 4) a_nil)) (by first | exact blkOk_by (N := N__law_asked) (sc := defScope s__law_asked) (by decide +kernel) | exact blkOk_by (by kernel_rfl)) rfl (fun _ _ _ _ _ => (t_name 12 sc__law_asked.nd rfl (by first | exact Or.inl rfl | exact Or.inr rfl))) (fun _ _ _ _ _ => cs_nil) (fun _ _ _ _ _ => (x_or (x_ix (x_v 10) (x_v 12)) (x_one (x_ix (x_v 11) (x_v 12)))))) (a_cons (x_v 3) (a_cons (x_v 2) a_nil)))))
noncomputable def ms__law_asked_8 : MS := (mAsg (mCb m__law_form_of (mCons (mLc false (miRng1 (mCons (mV 4) mNil)) (.name 12) mYes (mAndV (mOp fIx (mV 10) (mV 12)) (mOp fIx (mV 11) (mV 12))) [12]) (mCons (mV 3) (mCons (mV 2) mNil)))) (mgName 6))
theorem st__law_asked_8 (Fc : Facts K mg) (cdv : Value) (A : Around) (outer : List Env) (s : Shared) (H : Hp) (E : XK) (hr : Room (5) (A.deeper (envOfC "_law_asked" (defScope s__law_asked) s.heap.objs.size Fc.a__law_asked cdv))) : PS (cxOf CX0 P w K mg base N__law_asked "_law_asked" (defScope s__law_asked) Fc.a__law_asked cdv A outer s H E).nox (stmtAt (defBody s__law_asked) 5) (sM ⟨K, P, w⟩ (ms__law_asked_8)) :=
    (z_set 6 sc__law_asked.nd rfl (by first | exact Or.inl rfl | exact Or.inr rfl) (x_call (ok__law_form_of Fc) (hr.mono (by decide)) (by rfl) Fc.g__law_form_of Fc.F__law_form_of.kp (b__law_form_of Fc) (a_cons (x_lc false (T := (.name 12)) (own := [("at", 12)]) rfl sc__law_asked.nd (i_rng1 (by rfl) Fc.b_range (a_cons (x_v 4) a_nil)) (by first | exact blkOk_by (N := N__law_asked) (sc := defScope s__law_asked) (by decide +kernel) | exact blkOk_by (by kernel_rfl)) rfl (fun _ _ _ _ _ => (t_name 12 sc__law_asked.nd rfl (by first | exact Or.inl rfl | exact Or.inr rfl))) (fun _ _ _ _ _ => cs_nil) (fun _ _ _ _ _ => (x_and (x_ix (x_v 10) (x_v 12)) (x_one (x_ix (x_v 11) (x_v 12)))))) (a_cons (x_v 3) (a_cons (x_v 2) a_nil)))))
noncomputable def ms__law_asked_10 : MS := (mAsg (mCb m__law_form_of (mCons (mLc false (miRng1 (mCons (mV 4) mNil)) (.name 12) mYes (mAndV (mOp fIx (mV 10) (mV 12)) (mNotV (mOp fIx (mV 11) (mV 12)))) [12]) (mCons (mV 3) (mCons (mV 2) mNil)))) (mgName 7))
theorem st__law_asked_10 (Fc : Facts K mg) (cdv : Value) (A : Around) (outer : List Env) (s : Shared) (H : Hp) (E : XK) (hr : Room (5) (A.deeper (envOfC "_law_asked" (defScope s__law_asked) s.heap.objs.size Fc.a__law_asked cdv))) : PS (cxOf CX0 P w K mg base N__law_asked "_law_asked" (defScope s__law_asked) Fc.a__law_asked cdv A outer s H E).nox (stmtAt (defBody s__law_asked) 6) (sM ⟨K, P, w⟩ (ms__law_asked_10)) :=
    (z_set 7 sc__law_asked.nd rfl (by first | exact Or.inl rfl | exact Or.inr rfl) (x_call (ok__law_form_of Fc) (hr.mono (by decide)) (by rfl) Fc.g__law_form_of Fc.F__law_form_of.kp (b__law_form_of Fc) (a_cons (x_lc false (T := (.name 12)) (own := [("at", 12)]) rfl sc__law_asked.nd (i_rng1 (by rfl) Fc.b_range (a_cons (x_v 4) a_nil)) (by first | exact blkOk_by (N := N__law_asked) (sc := defScope s__law_asked) (by decide +kernel) | exact blkOk_by (by kernel_rfl)) rfl (fun _ _ _ _ _ => (t_name 12 sc__law_asked.nd rfl (by first | exact Or.inl rfl | exact Or.inr rfl))) (fun _ _ _ _ _ => cs_nil) (fun _ _ _ _ _ => (x_and (x_ix (x_v 10) (x_v 12)) (x_one (x_not (x_ix (x_v 11) (x_v 12))))))) (a_cons (x_v 3) (a_cons (x_v 2) a_nil)))))
noncomputable def ms__law_asked_12 : MS := (mAsg (mCb m__law_form_of (mCons (mLc false (miRng1 (mCons (mV 4) mNil)) (.name 12) mYes (mAndV (mOp fIx (mV 11) (mV 12)) (mNotV (mOp fIx (mV 10) (mV 12)))) [12]) (mCons (mV 3) (mCons (mV 2) mNil)))) (mgName 8))
theorem st__law_asked_12 (Fc : Facts K mg) (cdv : Value) (A : Around) (outer : List Env) (s : Shared) (H : Hp) (E : XK) (hr : Room (5) (A.deeper (envOfC "_law_asked" (defScope s__law_asked) s.heap.objs.size Fc.a__law_asked cdv))) : PS (cxOf CX0 P w K mg base N__law_asked "_law_asked" (defScope s__law_asked) Fc.a__law_asked cdv A outer s H E).nox (stmtAt (defBody s__law_asked) 7) (sM ⟨K, P, w⟩ (ms__law_asked_12)) :=
    (z_set 8 sc__law_asked.nd rfl (by first | exact Or.inl rfl | exact Or.inr rfl) (x_call (ok__law_form_of Fc) (hr.mono (by decide)) (by rfl) Fc.g__law_form_of Fc.F__law_form_of.kp (b__law_form_of Fc) (a_cons (x_lc false (T := (.name 12)) (own := [("at", 12)]) rfl sc__law_asked.nd (i_rng1 (by rfl) Fc.b_range (a_cons (x_v 4) a_nil)) (by first | exact blkOk_by (N := N__law_asked) (sc := defScope s__law_asked) (by decide +kernel) | exact blkOk_by (by kernel_rfl)) rfl (fun _ _ _ _ _ => (t_name 12 sc__law_asked.nd rfl (by first | exact Or.inl rfl | exact Or.inr rfl))) (fun _ _ _ _ _ => cs_nil) (fun _ _ _ _ _ => (x_and (x_ix (x_v 11) (x_v 12)) (x_one (x_not (x_ix (x_v 10) (x_v 12))))))) (a_cons (x_v 3) (a_cons (x_v 2) a_nil)))))
noncomputable def ms__law_asked_14 : MS := (mAsg (mTup (mCons (mCb m_union (mCons (mV 0) (mCons (mV 1) mNil))) (mCons (mCb m_meet (mCons (mV 0) (mCons (mV 1) mNil))) (mCons (mCb m_less (mCons (mV 0) (mCons (mV 1) mNil))) (mCons (mCbK m_less 0 2 [0, 1] mNil (mCons (mV 1) (mCons (mV 0) mNil))) mNil))))) (mgName 9))
theorem st__law_asked_14 (Fc : Facts K mg) (cdv : Value) (A : Around) (outer : List Env) (s : Shared) (H : Hp) (E : XK) (hr : Room (5) (A.deeper (envOfC "_law_asked" (defScope s__law_asked) s.heap.objs.size Fc.a__law_asked cdv))) : PS (cxOf CX0 P w K mg base N__law_asked "_law_asked" (defScope s__law_asked) Fc.a__law_asked cdv A outer s H E).nox (stmtAt (defBody s__law_asked) 8) (sM ⟨K, P, w⟩ (ms__law_asked_14)) :=
    (z_set 9 sc__law_asked.nd rfl (by first | exact Or.inl rfl | exact Or.inr rfl) (x_tup (a_cons (x_call (ok_union Fc) (hr.mono (by decide)) (by rfl) Fc.g_union Fc.F_union.kp (b_union Fc) (a_cons (x_v 0) (a_cons (x_v 1) a_nil))) (a_cons (x_call (ok_meet Fc) (hr.mono (by decide)) (by rfl) Fc.g_meet Fc.F_meet.kp (b_meet Fc) (a_cons (x_v 0) (a_cons (x_v 1) a_nil))) (a_cons (x_call (ok_less Fc) (hr.mono (by decide)) (by rfl) Fc.g_less Fc.F_less.kp (b_less Fc) (a_cons (x_v 0) (a_cons (x_v 1) a_nil))) (a_cons (x_callK0 (ks := ["one", "other"]) (pm := [0, 1]) (g := m_less) (ok_less Fc) (hr.mono (by decide)) (by rfl) Fc.g_less Fc.F_less.kp (kb_less_0 Fc) (kw_cons (x_v 1) (kw_cons (x_v 0) kw_nil))) a_nil))))))
noncomputable def ms__law_asked_16 : MS := (mRet (mCb (m__law_same 4) (mCons (mV 9) (mCons (mTup (mCons (mV 5) (mCons (mV 6) (mCons (mV 7) (mCons (mV 8) mNil))))) mNil))))
theorem st__law_asked_16 (Fc : Facts K mg) (cdv : Value) (A : Around) (outer : List Env) (s : Shared) (H : Hp) (E : XK) (hr : Room (5) (A.deeper (envOfC "_law_asked" (defScope s__law_asked) s.heap.objs.size Fc.a__law_asked cdv))) : PS (cxOf CX0 P w K mg base N__law_asked "_law_asked" (defScope s__law_asked) Fc.a__law_asked cdv A outer s H E).nox (stmtAt (defBody s__law_asked) 9) (sM ⟨K, P, w⟩ (ms__law_asked_16)) :=
    (z_ret (x_call (ok__law_same 4 Fc) (hr.mono (by decide)) (by rfl) Fc.g__law_same Fc.F__law_same.kp (b__law_same Fc) (a_cons (x_v 9) (a_cons (x_tup (a_cons (x_v 5) (a_cons (x_v 6) (a_cons (x_v 7) (a_cons (x_v 8) a_nil))))) a_nil))))
noncomputable def m__law_asked : List D → Sto → Option (D × Sto) := mDef 13 2 (mSeq (ms__law_asked_0)
    (mSeq (ms__law_asked_2)
    (mSeq (mAsg (mOp (fAdd false) (mV 3) (mOp (fMul false) (mC (.int 2)) (mV 2))) (mgName 4))
    (mSeq (ms__law_asked_4)
    (mSeq (ms__law_asked_6)
    (mSeq (ms__law_asked_8)
    (mSeq (ms__law_asked_10)
    (mSeq (ms__law_asked_12)
    (mSeq (ms__law_asked_14)
    (ms__law_asked_16))))))))))
theorem ok__law_asked (Fc : Facts K mg) : FnOk P w K mg base CX0 6 Fc.a__law_asked Fc.d__law_asked ["one", "other"] (spM ⟨K, P, w⟩ m__law_asked) := x_def (k := 5) Fc.F__law_asked sc__law_asked rfl rfl fun cdv A outer s H E hr =>
    (z_cons (st__law_asked_0 Fc cdv A outer s H E hr)
    (z_cons (st__law_asked_2 Fc cdv A outer s H E hr)
    (z_cons (z_set 4 sc__law_asked.nd rfl (by first | exact Or.inl rfl | exact Or.inr rfl) (x_add false (x_v 3) (x_mul false x_int (x_v 2))))
    (z_cons (st__law_asked_4 Fc cdv A outer s H E hr)
    (z_cons (st__law_asked_6 Fc cdv A outer s H E hr)
    (z_cons (st__law_asked_8 Fc cdv A outer s H E hr)
    (z_cons (st__law_asked_10 Fc cdv A outer s H E hr)
    (z_cons (st__law_asked_12 Fc cdv A outer s H E hr)
    (z_cons (st__law_asked_14 Fc cdv A outer s H E hr)
    (z_one (st__law_asked_16 Fc cdv A outer s H E hr)))))))))))
abbrev N__law_hand : List Str := ["drum", "n", "rows", "low", "told", "odd", "even", "whole", "none", "single", "far", "work", "one", "other", "due"]
theorem sc__law_hand : FnScope N__law_hand ["drum"] (defScope s__law_hand) := ⟨rfl, rfl, rfl, by decide +kernel, rfl, by decide +kernel, by decide +kernel⟩
noncomputable def ms__law_hand_0 : MS := (mIfS (mNot (mT (mCb (m__law_same 4) (mCons (mCV 11 [("union", m_union), ("meet", m_meet), ("less", m_less)] (mCons (mV 12) (mCons (mV 13) mNil))) (mCons (mV 14) mNil)))))
    (mRet (mC (.bl false)))
    mNext)
theorem st__law_hand_0 (Fc : Facts K mg) (cdv : Value) (A : Around) (outer : List Env) (s : Shared) (H : Hp) (E : XK) (hr : Room (5) (A.deeper (envOfC "_law_hand" (defScope s__law_hand) s.heap.objs.size Fc.a__law_hand cdv))) : PS (cxOf CX0 P w K mg base N__law_hand "_law_hand" (defScope s__law_hand) Fc.a__law_hand cdv A outer s H E).nox (stmtAt (bodyOf (stmtAt (defBody s__law_hand) 4)) 0) (sM ⟨K, P, w⟩ (ms__law_hand_0)) :=
    (z_if (y_not (y_t (x_call (ok__law_same 4 Fc) (hr.mono (by decide)) (by rfl) Fc.g__law_same Fc.F__law_same.kp (b__law_same Fc) (a_cons (x_callV (i := 11) (k := 5) (fs := [("union", m_union), ("meet", m_meet), ("less", m_less)]) (fv_cons ⟨_, Fc.a_union, Fc.d_union, _, by decide, Fc.n_union, ok_union Fc, Fc.F_union.kp, b_union Fc⟩ (fv_cons ⟨_, Fc.a_meet, Fc.d_meet, _, by decide, Fc.n_meet, ok_meet Fc, Fc.F_meet.kp, b_meet Fc⟩ (fv_cons ⟨_, Fc.a_less, Fc.d_less, _, by decide, Fc.n_less, ok_less Fc, Fc.F_less.kp, b_less Fc⟩ fv_nil))) (hr.mono (by decide)) rfl (by first | exact Or.inl rfl | exact Or.inr (Or.inl rfl) | exact Or.inr (Or.inr rfl)) (a_cons (x_v 12) (a_cons (x_v 13) a_nil))) (a_cons (x_v 14) a_nil)))))
    (z_one (z_ret x_bl))
    z_nil)
noncomputable def ms__law_hand_2 : MS := (mAsg (mTup (mCons (mTup (mCons (mTup mNil) (mCons (mC (.int 0)) (mCons (mC (.int 2)) (mCons (mTup (mCons (mC (.int 1)) mNil)) mNil))))) (mCons (mTup (mCons (mTup mNil) (mCons (mC (.int 0)) (mCons (mC (.int 2)) (mCons (mTup (mCons (mC (.int 0)) mNil)) mNil))))) (mCons (mTup (mCons (mTup mNil) (mCons (mC (.int 0)) (mCons (mC (.int 1)) (mCons (mTup (mCons (mC (.int 0)) mNil)) mNil))))) (mCons (mTup (mCons (mTup mNil) (mCons (mC (.int 0)) (mCons (mC (.int 1)) (mCons (mTup mNil) mNil))))) mNil))))) (mgTup 4 (mgCons (mgT (.name 5)) (mgCons (mgT (.name 6)) (mgCons (mgT (.name 7)) (mgCons (mgT (.name 8)) mgNil))))))
theorem st__law_hand_2 (Fc : Facts K mg) (cdv : Value) (A : Around) (outer : List Env) (s : Shared) (H : Hp) (E : XK) (hr : Room (5) (A.deeper (envOfC "_law_hand" (defScope s__law_hand) s.heap.objs.size Fc.a__law_hand cdv))) : PS (cxOf CX0 P w K mg base N__law_hand "_law_hand" (defScope s__law_hand) Fc.a__law_hand cdv A outer s H E).nox (stmtAt (defBody s__law_hand) 0) (sM ⟨K, P, w⟩ (ms__law_hand_2)) :=
    (z_asg (x_tup (a_cons (x_tup (a_cons (x_tup a_nil) (a_cons x_int (a_cons x_int (a_cons (x_tup (a_cons x_int a_nil)) a_nil))))) (a_cons (x_tup (a_cons (x_tup a_nil) (a_cons x_int (a_cons x_int (a_cons (x_tup (a_cons x_int a_nil)) a_nil))))) (a_cons (x_tup (a_cons (x_tup a_nil) (a_cons x_int (a_cons x_int (a_cons (x_tup (a_cons x_int a_nil)) a_nil))))) (a_cons (x_tup (a_cons (x_tup a_nil) (a_cons x_int (a_cons x_int (a_cons (x_tup a_nil) a_nil))))) a_nil))))) (g_tup (n := 4) rfl (g_cons (g_T (t_name 5 sc__law_hand.nd rfl (by first | exact Or.inl rfl | exact Or.inr rfl))) (g_cons (g_T (t_name 6 sc__law_hand.nd rfl (by first | exact Or.inl rfl | exact Or.inr rfl))) (g_cons (g_T (t_name 7 sc__law_hand.nd rfl (by first | exact Or.inl rfl | exact Or.inr rfl))) (g_cons (g_T (t_name 8 sc__law_hand.nd rfl (by first | exact Or.inl rfl | exact Or.inr rfl))) g_nil))))))
noncomputable def ms__law_hand_4 : MS := (mAsg (mCb m__law_beat (mCons (mV 0) (mCons (mC (.int 60)) mNil))) (mgName 1))
theorem st__law_hand_4 (Fc : Facts K mg) (cdv : Value) (A : Around) (outer : List Env) (s : Shared) (H : Hp) (E : XK) (hr : Room (5) (A.deeper (envOfC "_law_hand" (defScope s__law_hand) s.heap.objs.size Fc.a__law_hand cdv))) : PS (cxOf CX0 P w K mg base N__law_hand "_law_hand" (defScope s__law_hand) Fc.a__law_hand cdv A outer s H E).nox (stmtAt (defBody s__law_hand) 1) (sM ⟨K, P, w⟩ (ms__law_hand_4)) :=
    (z_set 1 sc__law_hand.nd rfl (by first | exact Or.inl rfl | exact Or.inr rfl) (x_call (ok__law_beat Fc) (hr.mono (by decide)) (by rfl) Fc.g__law_beat Fc.F__law_beat.kp (b__law_beat Fc) (a_cons (x_v 0) (a_cons x_int a_nil))))
noncomputable def ms__law_hand_6 : MS := (mPar 9 10 (mCons (mTup (mCons (mTup (mCons (mV 1) mNil)) (mCons (mOp (fAdd false) (mV 1) (mC (.int 1))) (mCons (mC (.int 1)) (mCons (mTup mNil) mNil))))) (mCons (mTup (mCons (mTup mNil) (mCons (mOp (fAdd false) (mV 1) (mC (.int 1))) (mCons (mC (.int 1)) (mCons (mTup (mCons (mC (.int 0)) mNil)) mNil))))) mNil)))
theorem st__law_hand_6 (Fc : Facts K mg) (cdv : Value) (A : Around) (outer : List Env) (s : Shared) (H : Hp) (E : XK) (hr : Room (5) (A.deeper (envOfC "_law_hand" (defScope s__law_hand) s.heap.objs.size Fc.a__law_hand cdv))) : PS (cxOf CX0 P w K mg base N__law_hand "_law_hand" (defScope s__law_hand) Fc.a__law_hand cdv A outer s H E).nox (stmtAt (defBody s__law_hand) 2) (sM ⟨K, P, w⟩ (ms__law_hand_6)) :=
    (z_par 9 10 rfl sc__law_hand.nd rfl rfl (by decide) rfl rfl (a_cons (x_tup (a_cons (x_tup (a_cons (x_v 1) a_nil)) (a_cons (x_add false (x_v 1) x_int) (a_cons x_int (a_cons (x_tup a_nil) a_nil))))) (a_cons (x_tup (a_cons (x_tup a_nil) (a_cons (x_add false (x_v 1) x_int) (a_cons x_int (a_cons (x_tup (a_cons x_int a_nil)) a_nil))))) a_nil)))
noncomputable def ms__law_hand_8 : MS := (mAsg (mLst false (mCons (mTup (mCons (mC (.fn "union")) (mCons (mV 5) (mCons (mV 6) (mCons (mV 7) mNil))))) (mCons (mTup (mCons (mC (.fn "meet")) (mCons (mV 5) (mCons (mV 6) (mCons (mV 8) mNil))))) (mCons (mTup (mCons (mC (.fn "less")) (mCons (mV 7) (mCons (mV 6) (mCons (mV 5) mNil))))) (mCons (mTup (mCons (mC (.fn "less")) (mCons (mV 5) (mCons (mV 5) (mCons (mV 8) mNil))))) (mCons (mTup (mCons (mC (.fn "union")) (mCons (mV 8) (mCons (mV 8) (mCons (mV 8) mNil))))) (mCons (mTup (mCons (mC (.fn "meet")) (mCons (mV 7) (mCons (mV 9) (mCons (mV 9) mNil))))) (mCons (mTup (mCons (mC (.fn "less")) (mCons (mV 9) (mCons (mV 7) (mCons (mV 8) mNil))))) (mCons (mTup (mCons (mC (.fn "union")) (mCons (mV 5) (mCons (mV 5) (mCons (mV 5) mNil))))) mNil))))))))) (mgName 2))
theorem st__law_hand_8 (Fc : Facts K mg) (cdv : Value) (A : Around) (outer : List Env) (s : Shared) (H : Hp) (E : XK) (hr : Room (5) (A.deeper (envOfC "_law_hand" (defScope s__law_hand) s.heap.objs.size Fc.a__law_hand cdv))) : PS (cxOf CX0 P w K mg base N__law_hand "_law_hand" (defScope s__law_hand) Fc.a__law_hand cdv A outer s H E).nox (stmtAt (defBody s__law_hand) 3) (sM ⟨K, P, w⟩ (ms__law_hand_8)) :=
    (z_set 2 sc__law_hand.nd rfl (by first | exact Or.inl rfl | exact Or.inr rfl) (x_lst false (a_cons (x_tup (a_cons (x_fn (by rfl) Fc.g_union Fc.n_union) (a_cons (x_v 5) (a_cons (x_v 6) (a_cons (x_v 7) a_nil))))) (a_cons (x_tup (a_cons (x_fn (by rfl) Fc.g_meet Fc.n_meet) (a_cons (x_v 5) (a_cons (x_v 6) (a_cons (x_v 8) a_nil))))) (a_cons (x_tup (a_cons (x_fn (by rfl) Fc.g_less Fc.n_less) (a_cons (x_v 7) (a_cons (x_v 6) (a_cons (x_v 5) a_nil))))) (a_cons (x_tup (a_cons (x_fn (by rfl) Fc.g_less Fc.n_less) (a_cons (x_v 5) (a_cons (x_v 5) (a_cons (x_v 8) a_nil))))) (a_cons (x_tup (a_cons (x_fn (by rfl) Fc.g_union Fc.n_union) (a_cons (x_v 8) (a_cons (x_v 8) (a_cons (x_v 8) a_nil))))) (a_cons (x_tup (a_cons (x_fn (by rfl) Fc.g_meet Fc.n_meet) (a_cons (x_v 7) (a_cons (x_v 9) (a_cons (x_v 9) a_nil))))) (a_cons (x_tup (a_cons (x_fn (by rfl) Fc.g_less Fc.n_less) (a_cons (x_v 9) (a_cons (x_v 7) (a_cons (x_v 8) a_nil))))) (a_cons (x_tup (a_cons (x_fn (by rfl) Fc.g_union Fc.n_union) (a_cons (x_v 5) (a_cons (x_v 5) (a_cons (x_v 5) a_nil))))) a_nil))))))))))
noncomputable def ms__law_hand_10 : MS := (mFor (miSeq (mV 2)) (.tup [(.name 11), (.name 12), (.name 13), (.name 14)])
    (ms__law_hand_0))
theorem st__law_hand_10 (Fc : Facts K mg) (cdv : Value) (A : Around) (outer : List Env) (s : Shared) (H : Hp) (E : XK) (hr : Room (5) (A.deeper (envOfC "_law_hand" (defScope s__law_hand) s.heap.objs.size Fc.a__law_hand cdv))) : PS (cxOf CX0 P w K mg base N__law_hand "_law_hand" (defScope s__law_hand) Fc.a__law_hand cdv A outer s H E).nox (stmtAt (defBody s__law_hand) 4) (sM ⟨K, P, w⟩ (ms__law_hand_10)) :=
    (z_for PassesOwn.never rfl (i_seq (x_v 2)) (t_tup rfl (ts_cons (t_name 11 sc__law_hand.nd rfl (by first | exact Or.inl rfl | exact Or.inr rfl)) (ts_cons (t_name 12 sc__law_hand.nd rfl (by first | exact Or.inl rfl | exact Or.inr rfl)) (ts_cons (t_name 13 sc__law_hand.nd rfl (by first | exact Or.inl rfl | exact Or.inr rfl)) (ts_cons (t_name 14 sc__law_hand.nd rfl (by first | exact Or.inl rfl | exact Or.inr rfl)) ts_nil)))))
    (z_one (st__law_hand_0 Fc cdv A outer s H E hr)))
noncomputable def ms__law_hand_12 : MS := (mAsg (mCb m_less (mCons (mV 7) (mCons (mV 10) mNil))) (mgName 3))
theorem st__law_hand_12 (Fc : Facts K mg) (cdv : Value) (A : Around) (outer : List Env) (s : Shared) (H : Hp) (E : XK) (hr : Room (5) (A.deeper (envOfC "_law_hand" (defScope s__law_hand) s.heap.objs.size Fc.a__law_hand cdv))) : PS (cxOf CX0 P w K mg base N__law_hand "_law_hand" (defScope s__law_hand) Fc.a__law_hand cdv A outer s H E).nox (stmtAt (defBody s__law_hand) 5) (sM ⟨K, P, w⟩ (ms__law_hand_12)) :=
    (z_set 3 sc__law_hand.nd rfl (by first | exact Or.inl rfl | exact Or.inr rfl) (x_call (ok_less Fc) (hr.mono (by decide)) (by rfl) Fc.g_less Fc.F_less.kp (b_less Fc) (a_cons (x_v 7) (a_cons (x_v 10) a_nil))))
noncomputable def ms__law_hand_14 : MS := (mAsg (mTup (mCons (mCbK m_union 0 2 [1, 0] mNil (mCons (mTup (mCons (mTup (mCons (mC (.int 4)) mNil)) (mCons (mC (.int 5)) (mCons (mC (.int 1)) (mCons (mTup mNil) mNil))))) (mCons (mV 5) mNil))) (mCons (mCbK m_meet 0 2 [0, 1] mNil (mCons (mV 5) (mCons (mTup (mCons (mTup mNil) (mCons (mC (.int 0)) (mCons (mC (.int 3)) (mCons (mTup (mCons (mC (.int 1)) mNil)) mNil))))) mNil))) (mCons (mV 3) (mCons (mCb m_union (mCons (mV 3) (mCons (mV 10) mNil))) (mCons (mCb m_meet (mCons (mTup (mCons (mTup mNil) (mCons (mC (.int 0)) (mCons (mC (.int 4)) (mCons (mTup (mCons (mC (.int 1)) mNil)) mNil))))) (mCons (mTup (mCons (mTup mNil) (mCons (mC (.int 0)) (mCons (mC (.int 6)) (mCons (mTup (mCons (mC (.int 3)) mNil)) mNil))))) mNil))) (mCons (mCb m_union (mCons (mTup (mCons (mTup mNil) (mCons (mC (.int 0)) (mCons (mC (.int 4)) (mCons (mTup (mCons (mC (.int 0)) mNil)) mNil))))) (mCons (mTup (mCons (mTup mNil) (mCons (mC (.int 0)) (mCons (mC (.int 4)) (mCons (mTup (mCons (mC (.int 2)) mNil)) mNil))))) mNil))) mNil))))))) (mgName 4))
theorem st__law_hand_14 (Fc : Facts K mg) (cdv : Value) (A : Around) (outer : List Env) (s : Shared) (H : Hp) (E : XK) (hr : Room (5) (A.deeper (envOfC "_law_hand" (defScope s__law_hand) s.heap.objs.size Fc.a__law_hand cdv))) : PS (cxOf CX0 P w K mg base N__law_hand "_law_hand" (defScope s__law_hand) Fc.a__law_hand cdv A outer s H E).nox (stmtAt (defBody s__law_hand) 6) (sM ⟨K, P, w⟩ (ms__law_hand_14)) :=
    (z_set 4 sc__law_hand.nd rfl (by first | exact Or.inl rfl | exact Or.inr rfl) (x_tup (a_cons (x_callK0 (ks := ["other", "one"]) (pm := [1, 0]) (g := m_union) (ok_union Fc) (hr.mono (by decide)) (by rfl) Fc.g_union Fc.F_union.kp (kb_union_2 Fc) (kw_cons (x_tup (a_cons (x_tup (a_cons x_int a_nil)) (a_cons x_int (a_cons x_int (a_cons (x_tup a_nil) a_nil))))) (kw_cons (x_v 5) kw_nil))) (a_cons (x_callK0 (ks := ["one", "other"]) (pm := [0, 1]) (g := m_meet) (ok_meet Fc) (hr.mono (by decide)) (by rfl) Fc.g_meet Fc.F_meet.kp (kb_meet_1 Fc) (kw_cons (x_v 5) (kw_cons (x_tup (a_cons (x_tup a_nil) (a_cons x_int (a_cons x_int (a_cons (x_tup (a_cons x_int a_nil)) a_nil))))) kw_nil))) (a_cons (x_v 3) (a_cons (x_call (ok_union Fc) (hr.mono (by decide)) (by rfl) Fc.g_union Fc.F_union.kp (b_union Fc) (a_cons (x_v 3) (a_cons (x_v 10) a_nil))) (a_cons (x_call (ok_meet Fc) (hr.mono (by decide)) (by rfl) Fc.g_meet Fc.F_meet.kp (b_meet Fc) (a_cons (x_tup (a_cons (x_tup a_nil) (a_cons x_int (a_cons x_int (a_cons (x_tup (a_cons x_int a_nil)) a_nil))))) (a_cons (x_tup (a_cons (x_tup a_nil) (a_cons x_int (a_cons x_int (a_cons (x_tup (a_cons x_int a_nil)) a_nil))))) a_nil))) (a_cons (x_call (ok_union Fc) (hr.mono (by decide)) (by rfl) Fc.g_union Fc.F_union.kp (b_union Fc) (a_cons (x_tup (a_cons (x_tup a_nil) (a_cons x_int (a_cons x_int (a_cons (x_tup (a_cons x_int a_nil)) a_nil))))) (a_cons (x_tup (a_cons (x_tup a_nil) (a_cons x_int (a_cons x_int (a_cons (x_tup (a_cons x_int a_nil)) a_nil))))) a_nil))) a_nil))))))))
noncomputable def ms__law_hand_16 : MS := (mRet (mCb (m__law_same 4) (mCons (mV 4) (mCons (mTup (mCons (mTup (mCons (mTup (mCons (mC (.int 1)) (mCons (mC (.int 3)) (mCons (mC (.int 4)) mNil)))) (mCons (mC (.int 5)) (mCons (mC (.int 2)) (mCons (mTup (mCons (mC (.int 1)) mNil)) mNil))))) (mCons (mTup (mCons (mTup mNil) (mCons (mC (.int 0)) (mCons (mC (.int 6)) (mCons (mTup (mCons (mC (.int 1)) mNil)) mNil))))) (mCons (mTup (mCons (mTupR (mOp (fAdd false) (mV 1) (mC (.int 1)))) (mCons (mOp (fAdd false) (mV 1) (mC (.int 1))) (mCons (mC (.int 1)) (mCons (mTup mNil) mNil))))) (mCons (mV 7) (mCons (mTup (mCons (mTup mNil) (mCons (mC (.int 0)) (mCons (mC (.int 12)) (mCons (mTup (mCons (mC (.int 9)) mNil)) mNil))))) (mCons (mV 6) mNil))))))) mNil))))
theorem st__law_hand_16 (Fc : Facts K mg) (cdv : Value) (A : Around) (outer : List Env) (s : Shared) (H : Hp) (E : XK) (hr : Room (5) (A.deeper (envOfC "_law_hand" (defScope s__law_hand) s.heap.objs.size Fc.a__law_hand cdv))) : PS (cxOf CX0 P w K mg base N__law_hand "_law_hand" (defScope s__law_hand) Fc.a__law_hand cdv A outer s H E).nox (stmtAt (defBody s__law_hand) 7) (sM ⟨K, P, w⟩ (ms__law_hand_16)) :=
    (z_ret (x_call (ok__law_same 4 Fc) (hr.mono (by decide)) (by rfl) Fc.g__law_same Fc.F__law_same.kp (b__law_same Fc) (a_cons (x_v 4) (a_cons (x_tup (a_cons (x_tup (a_cons (x_tup (a_cons x_int (a_cons x_int (a_cons x_int a_nil)))) (a_cons x_int (a_cons x_int (a_cons (x_tup (a_cons x_int a_nil)) a_nil))))) (a_cons (x_tup (a_cons (x_tup a_nil) (a_cons x_int (a_cons x_int (a_cons (x_tup (a_cons x_int a_nil)) a_nil))))) (a_cons (x_tup (a_cons (x_tupR rfl (by rfl) Fc.b_tuple (by rfl) Fc.b_range (x_add false (x_v 1) x_int)) (a_cons (x_add false (x_v 1) x_int) (a_cons x_int (a_cons (x_tup a_nil) a_nil))))) (a_cons (x_v 7) (a_cons (x_tup (a_cons (x_tup a_nil) (a_cons x_int (a_cons x_int (a_cons (x_tup (a_cons x_int a_nil)) a_nil))))) (a_cons (x_v 6) a_nil))))))) a_nil))))
noncomputable def m__law_hand : List D → Sto → Option (D × Sto) := mDef 15 1 (mSeq (ms__law_hand_2)
    (mSeq (ms__law_hand_4)
    (mSeq (ms__law_hand_6)
    (mSeq (ms__law_hand_8)
    (mSeq (ms__law_hand_10)
    (mSeq (ms__law_hand_12)
    (mSeq (ms__law_hand_14)
    (ms__law_hand_16))))))))
theorem ok__law_hand (Fc : Facts K mg) : FnOk P w K mg base CX0 6 Fc.a__law_hand Fc.d__law_hand ["drum"] (spM ⟨K, P, w⟩ m__law_hand) := x_def (k := 5) Fc.F__law_hand sc__law_hand rfl rfl fun cdv A outer s H E hr =>
    (z_cons (st__law_hand_2 Fc cdv A outer s H E hr)
    (z_cons (st__law_hand_4 Fc cdv A outer s H E hr)
    (z_cons (st__law_hand_6 Fc cdv A outer s H E hr)
    (z_cons (st__law_hand_8 Fc cdv A outer s H E hr)
    (z_cons (st__law_hand_10 Fc cdv A outer s H E hr)
    (z_cons (st__law_hand_12 Fc cdv A outer s H E hr)
    (z_cons (st__law_hand_14 Fc cdv A outer s H E hr)
    (z_one (st__law_hand_16 Fc cdv A outer s H E hr)))))))))
abbrev N_law : List Str := ["script", "drum", "lap", "one", "other"]
theorem sc_law : FnScope N_law ["script"] (defScope s_law) := ⟨rfl, rfl, rfl, by decide +kernel, rfl, by decide +kernel, by decide +kernel⟩
noncomputable def ms_law_0 : MS := (mPar 3 4 (mCons (mCb m__law_drawn (mCons (mV 1) (mCons (mC (.bl false)) mNil))) (mCons (mCb m__law_drawn (mCons (mV 1) (mCons (mC (.bl false)) mNil))) mNil)))
theorem st_law_0 (Fc : Facts K mg) (cdv : Value) (A : Around) (outer : List Env) (s : Shared) (H : Hp) (E : XK) (hr : Room (6) (A.deeper (envOfC "law" (defScope s_law) s.heap.objs.size Fc.a_law cdv))) : PS (cxOf CX0 P w K mg base N_law "law" (defScope s_law) Fc.a_law cdv A outer s H E).nox (stmtAt (bodyOf (stmtAt (defBody s_law) 2)) 0) (sM ⟨K, P, w⟩ (ms_law_0)) :=
    (z_par 3 4 rfl sc_law.nd rfl rfl (by decide) rfl rfl (a_cons (x_call (ok__law_drawn Fc) (hr.mono (by decide)) (by rfl) Fc.g__law_drawn Fc.F__law_drawn.kp (b__law_drawn Fc) (a_cons (x_v 1) (a_cons x_bl a_nil))) (a_cons (x_call (ok__law_drawn Fc) (hr.mono (by decide)) (by rfl) Fc.g__law_drawn Fc.F__law_drawn.kp (b__law_drawn Fc) (a_cons (x_v 1) (a_cons x_bl a_nil))) a_nil)))
noncomputable def ms_law_2 : MS := (mIfS (mNot (mT (mCb m__law_asked (mCons (mV 3) (mCons (mV 4) mNil)))))
    (mRet (mC (.bl false)))
    mNext)
theorem st_law_2 (Fc : Facts K mg) (cdv : Value) (A : Around) (outer : List Env) (s : Shared) (H : Hp) (E : XK) (hr : Room (6) (A.deeper (envOfC "law" (defScope s_law) s.heap.objs.size Fc.a_law cdv))) : PS (cxOf CX0 P w K mg base N_law "law" (defScope s_law) Fc.a_law cdv A outer s H E).nox (stmtAt (bodyOf (stmtAt (defBody s_law) 2)) 1) (sM ⟨K, P, w⟩ (ms_law_2)) :=
    (z_if (y_not (y_t (x_call (ok__law_asked Fc) (hr.mono (by decide)) (by rfl) Fc.g__law_asked Fc.F__law_asked.kp (b__law_asked Fc) (a_cons (x_v 3) (a_cons (x_v 4) a_nil)))))
    (z_one (z_ret x_bl))
    z_nil)
noncomputable def ms_law_4 : MS := (mIfS (mOr (mAnd (mTB (mOp fEq (mV 2) (mC (.int 0)))) (mNot (mT (mCb m__law_asked (mCons (mV 3) (mCons (mTup (mCons (mTup mNil) (mCons (mC (.int 0)) (mCons (mC (.int 1)) (mCons (mTup (mCons (mC (.int 0)) mNil)) mNil))))) mNil)))))) (mAnd (mTB (mOp fEq (mV 2) (mC (.int 1)))) (mNot (mT (mCb m__law_asked (mCons (mV 3) (mCons (mV 3) mNil)))))))
    (mRet (mC (.bl false)))
    mNext)
theorem st_law_4 (Fc : Facts K mg) (cdv : Value) (A : Around) (outer : List Env) (s : Shared) (H : Hp) (E : XK) (hr : Room (6) (A.deeper (envOfC "law" (defScope s_law) s.heap.objs.size Fc.a_law cdv))) : PS (cxOf CX0 P w K mg base N_law "law" (defScope s_law) Fc.a_law cdv A outer s H E).nox (stmtAt (bodyOf (stmtAt (defBody s_law) 2)) 2) (sM ⟨K, P, w⟩ (ms_law_4)) :=
    (z_if (y_or (y_and (y_k (k_eq hr) (x_v 2) x_int) (y_and1 (y_not (y_t (x_call (ok__law_asked Fc) (hr.mono (by decide)) (by rfl) Fc.g__law_asked Fc.F__law_asked.kp (b__law_asked Fc) (a_cons (x_v 3) (a_cons (x_tup (a_cons (x_tup a_nil) (a_cons x_int (a_cons x_int (a_cons (x_tup (a_cons x_int a_nil)) a_nil))))) a_nil))))))).pt (y_or1 (y_and (y_k (k_eq hr) (x_v 2) x_int) (y_and1 (y_not (y_t (x_call (ok__law_asked Fc) (hr.mono (by decide)) (by rfl) Fc.g__law_asked Fc.F__law_asked.kp (b__law_asked Fc) (a_cons (x_v 3) (a_cons (x_v 3) a_nil))))))).pt)).pt
    (z_one (z_ret x_bl))
    z_nil)
noncomputable def ms_law_6 : MS := (mAsg (mCb m__law_drum (mCons (mV 0) mNil)) (mgName 1))
theorem st_law_6 (Fc : Facts K mg) (cdv : Value) (A : Around) (outer : List Env) (s : Shared) (H : Hp) (E : XK) (hr : Room (6) (A.deeper (envOfC "law" (defScope s_law) s.heap.objs.size Fc.a_law cdv))) : PS (cxOf CX0 P w K mg base N_law "law" (defScope s_law) Fc.a_law cdv A outer s H E).nox (stmtAt (defBody s_law) 0) (sM ⟨K, P, w⟩ (ms_law_6)) :=
    (z_set 1 sc_law.nd rfl (by first | exact Or.inl rfl | exact Or.inr rfl) (x_call (ok__law_drum Fc) (hr.mono (by decide)) (by rfl) Fc.g__law_drum Fc.F__law_drum.kp (b__law_drum Fc) (a_cons (x_v 0) a_nil)))
noncomputable def ms_law_8 : MS := (mIfS (mNot (mT (mCb m__law_hand (mCons (mV 1) mNil))))
    (mRet (mC (.bl false)))
    mNext)
theorem st_law_8 (Fc : Facts K mg) (cdv : Value) (A : Around) (outer : List Env) (s : Shared) (H : Hp) (E : XK) (hr : Room (6) (A.deeper (envOfC "law" (defScope s_law) s.heap.objs.size Fc.a_law cdv))) : PS (cxOf CX0 P w K mg base N_law "law" (defScope s_law) Fc.a_law cdv A outer s H E).nox (stmtAt (defBody s_law) 1) (sM ⟨K, P, w⟩ (ms_law_8)) :=
    (z_if (y_not (y_t (x_call (ok__law_hand Fc) (hr.mono (by decide)) (by rfl) Fc.g__law_hand Fc.F__law_hand.kp (b__law_hand Fc) (a_cons (x_v 1) a_nil))))
    (z_one (z_ret x_bl))
    z_nil)
noncomputable def ms_law_10 : MS := (mFor (miRng1 (mCons (mC (.int 6)) mNil)) (.name 2)
    (mSeq (ms_law_0)
    (mSeq (ms_law_2)
    (ms_law_4))))
theorem st_law_10 (Fc : Facts K mg) (cdv : Value) (A : Around) (outer : List Env) (s : Shared) (H : Hp) (E : XK) (hr : Room (6) (A.deeper (envOfC "law" (defScope s_law) s.heap.objs.size Fc.a_law cdv))) : PS (cxOf CX0 P w K mg base N_law "law" (defScope s_law) Fc.a_law cdv A outer s H E).nox (stmtAt (defBody s_law) 2) (sM ⟨K, P, w⟩ (ms_law_10)) :=
    (z_for PassesOwn.never rfl (i_rng1 (by rfl) Fc.b_range (a_cons x_int a_nil)) (t_name 2 sc_law.nd rfl (by first | exact Or.inl rfl | exact Or.inr rfl))
    (z_cons (st_law_0 Fc cdv A outer s H E hr)
    (z_cons (st_law_2 Fc cdv A outer s H E hr)
    (z_one (st_law_4 Fc cdv A outer s H E hr)))))
noncomputable def ms_law_12 : MS := (mRet (mOrV (mOp fNe (mCb m__law_beat (mCons (mV 1) (mCons (mC (.int 13)) mNil))) (mC (.int 4))) (mCb m__law_asked (mCons (mCb m__law_drawn (mCons (mV 1) (mCons (mC (.bl true)) mNil))) (mCons (mCb m__law_drawn (mCons (mV 1) (mCons (mC (.bl true)) mNil))) mNil)))))
theorem st_law_12 (Fc : Facts K mg) (cdv : Value) (A : Around) (outer : List Env) (s : Shared) (H : Hp) (E : XK) (hr : Room (6) (A.deeper (envOfC "law" (defScope s_law) s.heap.objs.size Fc.a_law cdv))) : PS (cxOf CX0 P w K mg base N_law "law" (defScope s_law) Fc.a_law cdv A outer s H E).nox (stmtAt (defBody s_law) 3) (sM ⟨K, P, w⟩ (ms_law_12)) :=
    (z_ret (x_or (x_k (k_ne hr) (x_call (ok__law_beat Fc) (hr.mono (by decide)) (by rfl) Fc.g__law_beat Fc.F__law_beat.kp (b__law_beat Fc) (a_cons (x_v 1) (a_cons x_int a_nil))) x_int) (x_one (x_call (ok__law_asked Fc) (hr.mono (by decide)) (by rfl) Fc.g__law_asked Fc.F__law_asked.kp (b__law_asked Fc) (a_cons (x_call (ok__law_drawn Fc) (hr.mono (by decide)) (by rfl) Fc.g__law_drawn Fc.F__law_drawn.kp (b__law_drawn Fc) (a_cons (x_v 1) (a_cons x_bl a_nil))) (a_cons (x_call (ok__law_drawn Fc) (hr.mono (by decide)) (by rfl) Fc.g__law_drawn Fc.F__law_drawn.kp (b__law_drawn Fc) (a_cons (x_v 1) (a_cons x_bl a_nil))) a_nil))))))
noncomputable def m_law : List D → Sto → Option (D × Sto) := mDef 5 1 (mSeq (ms_law_6)
    (mSeq (ms_law_8)
    (mSeq (ms_law_10)
    (ms_law_12))))
theorem ok_law (Fc : Facts K mg) : FnOk P w K mg base CX0 7 Fc.a_law Fc.d_law ["script"] (spM ⟨K, P, w⟩ m_law) := x_def (k := 6) Fc.F_law sc_law rfl rfl fun cdv A outer s H E hr =>
    (z_cons (st_law_6 Fc cdv A outer s H E hr)
    (z_cons (st_law_8 Fc cdv A outer s H E hr)
    (z_cons (st_law_10 Fc cdv A outer s H E hr)
    (z_one (st_law_12 Fc cdv A outer s H E hr)))))
end
end K02


namespace K02
open PySem PySem.Spec PyProof.Rows L2 My
local macro_rules | `(tactic| walk_at "ev") => `(tactic| try simp only [mDef, mSeq, mAsg, mV_eq, mC, mOp, mUn, mCb, mNil, mCons, mTup, mIfS, mTB, mT, mRet, mNext, mgTup, mgCons, mgNil, mgT, mgName, setTg, setTgs, mIf, mAnd, mOr, mNot, mAndV, mOrV, mNotV, fB, fLt_int, fLe, fGt, fGe, fAdd_int, fSub_int, fMod_int, fDiv_int, fMul_int, fNeg_int, fIn_tup, fIn_lst, settle_same, fIx, look_tup, look_d, look_lst, look_fro, lookL_lst, atI_0, atI_1, atI_2, atI_3, fLen_tup, fLen_lst, miSeq, srcOf, mPar, mAug, mRetN, fTuple_lst, fTuple_tup, alloc_f, fEq_int, fMaxL_2, fMinL_2, fSorted_ints, fIsN_int, fIsN_non, fNe_int, mDrop, wipeE, mYes, My.isNon, miRng1, miRng2, fInt_int, truD, fShl_int, fPow_int, fAbs_int, fEq_bl, fIsi_tt, fIsi_it, fIsi_ii, fIsi_ib, fIsi_bt, fIsi_bi, fIsi_bb, fIsi_tb, fIsi_ti, last_concat, List.dropLast_concat, look_loc, lookL_loc, fLen_loc, ixN_0, ixN_1, ixN_2, ixN_3, fSetL_loc, fAppend_loc, fPop_loc, fExtend_loc, mgSub, mMt, alloc_t, mFrz, mSl, mRev, mNone, mSome, mLst, fNeg, fSet_tup, fSet_lst, fInS_int, fSortS_set, fAll_lst, fAdd_tup, mNotT, mCV, mBreak, mCont, z0, z1, z2, z3, z4, z5, z6, z7, z8, z9, List.lookup_cons,
  b_some, b_none, m_some, Option.join_some, List.getElem?_cons_zero, List.getElem?_cons_succ, List.set_cons_zero, List.set_cons_succ, List.map_cons, List.map_nil, List.length_cons, List.length_nil, List.replicate, List.cons_append, List.nil_append, Nat.reduceAdd, Nat.reduceSub, if_true, if_false, reduceIte, reduceCtorEq, ite_bind, Bool.false_eq_true, decide_eq_true_eq, List.length_map, decide_true, decide_false, Bool.not_true, Bool.not_false])
local macro_rules | `(tactic| walk_at "nx") => `(tactic| (refine (mSeq_nx (by (walk_at "ev"; rfl))).trans ?_))
theorem is_regular_eq {a : Rs} (w : a.Wf) (hl : a.rests.length < 4000) {d : Int} (st : Sto) : m_is_regular [.tup (a.rests.map .int), .int a.turn, .int d] st = some (.bl (a.reg d), st) := by
  have ht := w.turn
  let E : Option D → En := fun k => [some (.tup (a.rests.map .int)), some (.int a.turn), some (.int d), k, none]
  have a0 : (mAsg (mCb fSet (mCons (mV 0) mNil)) (mgName 3)) (E none) st = some (.nx (E (some (.set a.rests))), st) := by
    dsimp only [E]; walk_at "ev"
    rw [if_pos hl]
  have lc : mLc false (miSeq (mV 0)) (.name 4) mYes (mOp (fInS false) (mOp fMod (mOp (fAdd false) (mV 4) (mV 2)) (mV 1)) (mV 3)) [4] (E (some (.set a.rests))) st = some (.lst ((a.rests.map fun r => decide ((r + d) % a.turn ∈ a.rests)).map .bl), st) := by
    rw [lc_ints (ns := a.rests) (st1 := st) (by dsimp only [E]; walk_at "ev") (fun _ => true) (fun r => .bl (decide ((r + d) % a.turn ∈ a.rests))) (szlt (by omega)) fun x _ => ⟨(E (some (.set a.rests))).set 4 (some (.int x)), rfl, rfl, fun _ => by
      dsimp only [E]; walk_at "ev"
      rw [cMod_ok ht]
      walk_at "ev"⟩, List.filter_eq_self.mpr (fun _ _ => rfl), List.map_map]
    rfl
  have key : ∀ q : ME, ∀ bs : List Bool, q (E (some (.set a.rests))) st = some (.lst (bs.map .bl), st) → (mRet (mCb fAll (mCons q mNil))) (E (some (.set a.rests))) st = some (.rt (.bl (bs.all id)), st) := by
    intro q bs hq
    dsimp only [E] at hq ⊢
    walk_at "ev"
    rw [hq]
    walk_at "ev"
  exact mDef_rt rfl ((mSeq_nx a0).trans (key _ _ lc))
theorem least_turn_eq {a : Rs} (w : a.Wf) (hl : a.rests.length < 4000) (ht9 : a.turn < 10 ^ 9) (st : Sto) : ∃ d : Int, 0 < d ∧ d ≤ a.turn ∧ a.turn % d = 0 ∧ Per a.P d ∧ (∀ c, 0 < c → c < d → a.turn % c = 0 → ¬ Per a.P c) ∧
    m_least_turn [.int a.turn, .tup (a.rests.map .int)] st = some (.tup [.int d, .tup ((sU (a.rests.map fun r => r % d)).map .int)], st) := by
  have ht := w.turn
  let E : Option D → En := fun k => [some (.int a.turn), some (.tup (a.rests.map .int)), k, none]
  by_cases hz : a.rests = []
  · refine ⟨1, by decide, by omega, Int.emod_one _, fun n => ?_, fun c c0 c1 _ => by omega, ?_⟩
    · unfold Rs.P
      rw [hz]
      simp
    · rw [hz]
      refine mDef_rt rfl (mSeq_rt ?_)
      unfold ms_least_turn_4
      walk_at "ev"
      rw [if_pos (show ((0 : Nat) : Int) = 0 from rfl), show sU [] = [] by simp [sU, sortI, uq]]
      rfl
  · have hL := List.length_pos_iff.mpr hz
    have a0 : ms_least_turn_4 (E none) st = some (.nx (E none), st) := by
      unfold ms_least_turn_4
      dsimp only [E]; walk_at "ev"
      rw [if_neg (by omega)]
    let p : Int → Bool := fun d => decide (a.turn % d = 0) && a.reg d
    rcases for_find (mi := miRng2 (mCons (mC (.int 1)) (mCons (mOp (fAdd false) (mV 0) (mC (.int 1))) mNil))) (T := .name 2) (b := ms_least_turn_2) (en := E none) (st := st) (st1 := st) (ns := rngI 1 a.turn.toNat) (by
        dsimp only [E]; walk_at "ev"
        rw [if_pos ⟨small_ok (by omega), small_ok (by omega)⟩, rngD_eq, show (a.turn + 1 - 1).toNat = a.turn.toNat by omega]) p (fun d => .tup [.int d, .tup ((sU (a.rests.map fun r => r % d)).map .int)]) (fun en => ∃ k, en = E k) ⟨_, rfl⟩ (by
        rintro d hd en ⟨k, rfl⟩
        have h1 := mem_rngI.mp hd
        have tst : (mAnd (mTB (mOp fEq (mOp fMod (mV 0) (mV 2)) (mC (.int 0)))) (mT (mCb m_is_regular (mCons (mV 1) (mCons (mV 0) (mCons (mV 2) mNil)))))) (E (some (.int d))) st = some (p d, st) := by
          dsimp only [E, p]; walk_at "ev"
          rw [cMod_ok (by omega)]
          by_cases hm : a.turn % d = 0
          · simp only [hm, decide_true, Bool.true_and, if_true]
            walk_at "ev"
            rw [is_regular_eq w hl]
            rfl
          · simp only [hm, decide_false, Bool.false_and, if_true]
            walk_at "ev"
        have ret : ms_least_turn_0 (E (some (.int d))) st = some (.rt (.tup [.int d, .tup ((sU (a.rests.map fun r => r % d)).map .int)]), st) := by
          have lc : mLc false (miSeq (mV 1)) (.name 3) mYes (mOp fMod (mV 3) (mV 2)) [3] (E (some (.int d))) st = some (.lst ((a.rests.map fun r => r % d).map .int), st) := by
            rw [lc_ints (ns := a.rests) (st1 := st) (by dsimp only [E]; walk_at "ev") (fun _ => true) (fun r => .int (r % d)) (szlt (by omega)) fun x _ => ⟨(E (some (.int d))).set 3 (some (.int x)), rfl, rfl, fun _ => by
              dsimp only [E]; walk_at "ev"
              rw [cMod_ok (by omega)]
              walk_at "ev"⟩, List.filter_eq_self.mpr (fun _ _ => rfl), List.map_map]
            rfl
          have key : ∀ q : ME, ∀ ms : List Int, ms.length < 4000 → q (E (some (.int d))) st = some (.lst (ms.map .int), st) → (mRet (mTup (mCons (mV 2) (mCons (mCb fTuple (mCons (mCb fSortS (mCons (mCb fSet (mCons q mNil)) mNil)) mNil)) mNil)))) (E (some (.int d))) st = some (.rt (.tup [.int d, .tup ((sU ms).map .int)]), st) := by
            intro q ms hm hq
            dsimp only [E] at hq ⊢
            walk_at "ev"
            rw [hq]
            walk_at "ev"
            rw [if_pos hm]
            walk_at "ev"
          exact key _ _ (by rw [List.length_map]; exact hl) lc
        refine ⟨E (some (.int d)), rfl, fun h => ?_, fun h => ⟨E (some (.int d)), ?_, some (.int d), rfl⟩⟩
        · exact (mIfS_t (by rw [tst, h])).trans ret
        · refine (mIfS_f (by rw [tst, h])).trans ?_
          rfl) with ⟨en2, h1, h2, _⟩ | ⟨d, h1, h2⟩
    · exfalso
      have z := List.find?_eq_none.mp h1 a.turn (mem_rngI.mpr (by omega))
      refine z ?_
      show (decide (a.turn % a.turn = 0) && a.reg a.turn) = true
      rw [Int.emod_self, decide_eq_true rfl, (Rs.reg_per w ht).mpr a.perP]
      rfl
    · have hp := List.find?_some h1
      have hm := mem_rngI.mp (List.mem_of_find?_eq_some h1)
      have hp2 : a.turn % d = 0 ∧ a.reg d = true := by
        have : (decide (a.turn % d = 0) && a.reg d) = true := hp
        rw [Bool.and_eq_true, decide_eq_true_eq] at this
        exact this
      refine ⟨d, by omega, by omega, hp2.1, (Rs.reg_per w (by omega)).mp hp2.2, fun c c0 c1 c2 hc => ?_, mDef_rt rfl ((mSeq_nx a0).trans (mSeq_rt h2))⟩
      have hpc : p c = true := by
        show (decide (a.turn % c = 0) && a.reg c) = true
        rw [decide_eq_true c2, (Rs.reg_per w c0).mpr hc]
        rfl
      obtain ⟨bs, cs, e, hno⟩ := List.find?_eq_some_iff_append.mp h1 |>.2
      have hmem : c ∈ rngI 1 a.turn.toNat := mem_rngI.mpr (by omega)
      have hord := rngI_lt 1 a.turn.toNat
      rw [e] at hmem hord
      rcases List.mem_append.mp hmem with m | m
      · have z := hno c m
        rw [hpc] at z
        cases z
      · rcases List.mem_cons.mp m with rfl | m
        · omega
        · have z := (List.pairwise_cons.mp (List.pairwise_append.mp hord).2.1).1 c m
          omega
theorem least_first_eq {ms rs : List Int} {first turn : Int} (h0 : 0 ≤ first) (ht : 0 < turn) (hm : ms.length < 4000) (st : Sto) : ∃ f : Int, 0 ≤ f ∧ f ≤ first ∧ (∀ n, f ≤ n → n < first → decide (n ∈ ms) = decide (n % turn ∈ rs)) ∧ (0 < f → decide (f - 1 ∈ ms) ≠ decide ((f - 1) % turn ∈ rs)) ∧
    m_least_first [.tup (ms.map .int), .int first, .int turn, .tup (rs.map .int)] st = some (.int f, st) := by
  let E : Int → Option D → En := fun f k => [some (.tup (ms.map .int)), some (.int f), some (.int turn), some (.tup (rs.map .int)), k]
  have a0 : (mAsg (mCb fSet (mCons (mV 0) mNil)) (mgName 4)) (E first none) st = some (.nx (E first (some (.set ms))), st) := by
    dsimp only [E]; walk_at "ev"
    rw [if_pos hm]
  let fi : En → Int := fun en => match en[1]? with
    | some (some (D.int f)) => f
    | _ => 0
  obtain ⟨o, s1, a1, k⟩ := wh_inv (c := (mAnd (mTB (mOp fGt (mV 1) (mC (.int 0)))) (mTB (mOp fEq (mOp (fInS false) (mOp fSub (mV 1) (mC (.int 1))) (mV 4)) (mOp (fIn false) (mOp fMod (mOp fSub (mV 1) (mC (.int 1))) (mV 2)) (mV 3)))))) (b := (mAsg (mOp fSub (mV 1) (mC (.int 1))) (mgName 1))) (en := E first (some (.set ms))) (st := st)
    (fun en s => s = st ∧ ∃ f, en = E f (some (.set ms)) ∧ 0 ≤ f ∧ f ≤ first ∧ ∀ n, f ≤ n → n < first → decide (n ∈ ms) = decide (n % turn ∈ rs)) (fun en _ => (fi en).toNat)
    (fun en s => s = st ∧ ∃ f, en = E f (some (.set ms)) ∧ 0 ≤ f ∧ f ≤ first ∧ (∀ n, f ≤ n → n < first → decide (n ∈ ms) = decide (n % turn ∈ rs)) ∧ (0 < f → decide (f - 1 ∈ ms) ≠ decide ((f - 1) % turn ∈ rs))) (fun _ _ => False) ⟨rfl, first, rfl, h0, Int.le_refl _, fun n _ _ => by omega⟩ (by
      rintro en s ⟨rfl, f, rfl, f0, f1, f2⟩
      by_cases hz : 0 < f
      · refine ⟨decide (decide (f - 1 ∈ ms) = decide ((f - 1) % turn ∈ rs)), s, ?_, fun h => ⟨rfl, f, rfl, f0, f1, f2, fun _ => of_decide_eq_false h⟩, fun h => ⟨.nx (E (f - 1) (some (.set ms))), s, ?_, ⟨rfl, f - 1, rfl, by omega, by omega, fun n h1 h2 => ?_⟩, ?_⟩⟩
        · dsimp only [E]; walk_at "ev"
          rw [if_pos hz, if_pos (cMod_ok ht)]
        · dsimp only [E]; walk_at "ev"
        · by_cases e : n = f - 1
          · subst e
            exact of_decide_eq_true h
          · exact f2 n (by omega) h2
        · show (f - 1).toNat < f.toNat
          omega
      · refine ⟨false, s, ?_, fun _ => ⟨rfl, f, rfl, f0, f1, f2, fun h => absurd h hz⟩, (fun h => by cases h)⟩
        dsimp only [E]; walk_at "ev"
        rw [if_neg hz])
  cases o with
  | nx e =>
    obtain ⟨rfl, f, rfl, f0, f1, f2, f3⟩ := k
    refine ⟨f, f0, f1, f2, f3, mDef_rt rfl ((mSeq_nx a0).trans ((mSeq_nx a1).trans ?_))⟩
    dsimp only [E]; walk_at "ev"
  | _ => exact k.elim
theorem formed_eq {a : Rs} (w : a.Wf) (hf : a.few.length < 4000) (hl : a.rests.length < 4000) (ht9 : a.turn < 10 ^ 9) (st : Sto) : ∃ b : Rs, b.Canon ∧ (∀ n, 0 ≤ n → b.has n = a.has n) ∧ b.first ≤ a.first ∧ b.turn ≤ a.turn ∧
    m_formed [.tup (a.few.map .int), .int a.first, .int a.turn, .tup (a.rests.map .int)] st = some (b.d, st) := by
  obtain ⟨d, d0, d1, d2, d3, d4, e1⟩ := least_turn_eq w hl ht9 st
  obtain ⟨f, f0, f1, f2, f3, e2⟩ := least_first_eq (ms := a.few) (rs := sU (a.rests.map fun r => r % d)) (first := a.first) (turn := d) w.first d0 hf st
  have hP := Rs.shr_P (f := f) w d0 d2 d3
  obtain ⟨c, hb⟩ := Rs.shr_ok w d0 d2 d3 d4 f0 f1 (fun n h1 h2 => (f2 n h1 h2).trans (hP n)) (fun h z => f3 h (z.trans (hP _).symm))
  refine ⟨a.shr d f, c, hb, f1, d1, ?_⟩
  let E : Option D → Option D → Option D → En := fun b l r => [some (.tup (a.few.map .int)), some (.int a.first), some (.int a.turn), some (.tup (a.rests.map .int)), b, l, r, none]
  have a0 : ms_formed_0 (E none none none) st = some (.nx (E none (some (.int d)) (some (.tup ((sU (a.rests.map fun r => r % d)).map .int)))), st) := by
    unfold ms_formed_0
    dsimp only [E]; walk_at "ev"
    rw [e1]
    walk_at "ev"
  have a1 : ms_formed_2 (E none (some (.int d)) (some (.tup ((sU (a.rests.map fun r => r % d)).map .int)))) st = some (.nx (E (some (.int f)) (some (.int d)) (some (.tup ((sU (a.rests.map fun r => r % d)).map .int)))), st) := by
    unfold ms_formed_2
    dsimp only [E]; walk_at "ev"
    rw [e2]
    walk_at "ev"
  have lc : mLc false (miSeq (mV 0)) (.name 7) (mTB (mOp fLt (mV 7) (mV 4))) (mV 7) [7] (E (some (.int f)) (some (.int d)) (some (.tup ((sU (a.rests.map fun r => r % d)).map .int)))) st = some (.lst ((a.few.filter fun m => decide (m < f)).map .int), st) := by
    exact lc_ints (ns := a.few) (st1 := st) (by dsimp only [E]; walk_at "ev") (fun m => decide (m < f)) .int (szlt (by omega)) fun x _ => ⟨(E (some (.int f)) (some (.int d)) (some (.tup ((sU (a.rests.map fun r => r % d)).map .int)))).set 7 (some (.int x)), rfl, by dsimp only [E]; walk_at "ev", fun _ => by dsimp only [E]; walk_at "ev"⟩
  have key : ∀ q : ME, ∀ ms : List Int, q (E (some (.int f)) (some (.int d)) (some (.tup ((sU (a.rests.map fun r => r % d)).map .int)))) st = some (.lst (ms.map .int), st) → (mRet (mTup (mCons (mCb fTuple (mCons q mNil)) (mCons (mV 4) (mCons (mV 5) (mCons (mV 6) mNil)))))) (E (some (.int f)) (some (.int d)) (some (.tup ((sU (a.rests.map fun r => r % d)).map .int)))) st = some (.rt (.tup [.tup (ms.map .int), .int f, .int d, .tup ((sU (a.rests.map fun r => r % d)).map .int)]), st) := by
    intro q ms hq
    dsimp only [E] at hq ⊢
    walk_at "ev"
    rw [hq]
    walk_at "ev"
  exact mDef_rt rfl ((mSeq_nx a0).trans ((mSeq_nx a1).trans (key _ _ lc)))
end K02


namespace K02
open PySem PySem.Spec PyProof.Rows L2 My
local macro_rules | `(tactic| walk_at "ev") => `(tactic| try simp only [mDef, mSeq, mAsg, mV_eq, mC, mOp, mUn, mCb, mNil, mCons, mTup, mIfS, mTB, mT, mRet, mNext, mgTup, mgCons, mgNil, mgT, mgName, setTg, setTgs, mIf, mAnd, mOr, mNot, mAndV, mOrV, mNotV, fB, fLt_int, fLe, fGt, fGe, fAdd_int, fSub_int, fMod_int, fDiv_int, fMul_int, fNeg_int, fIn_tup, fIn_lst, settle_same, fIx, look_tup, look_d, look_lst, look_fro, lookL_lst, atI_0, atI_1, atI_2, atI_3, fLen_tup, fLen_lst, miSeq, srcOf, mPar, mAug, mRetN, fTuple_lst, fTuple_tup, alloc_f, fEq_int, fMaxL_2, fMinL_2, fSorted_ints, fIsN_int, fIsN_non, fNe_int, mDrop, wipeE, mYes, My.isNon, miRng1, miRng2, fInt_int, truD, fShl_int, fPow_int, fAbs_int, fEq_bl, fIsi_tt, fIsi_it, fIsi_ii, fIsi_ib, fIsi_bt, fIsi_bi, fIsi_bb, fIsi_tb, fIsi_ti, last_concat, List.dropLast_concat, look_loc, lookL_loc, fLen_loc, ixN_0, ixN_1, ixN_2, ixN_3, fSetL_loc, fAppend_loc, fPop_loc, fExtend_loc, mgSub, mMt, alloc_t, mFrz, mSl, mRev, mNone, mSome, mLst, fNeg, fSet_tup, fSet_lst, fInS_int, fSortS_set, fAll_lst, fAdd_tup, mNotT, mCV, mBreak, mCont, z0, z1, z2, z3, z4, z5, z6, z7, z8, z9, List.lookup_cons,
  b_some, b_none, m_some, Option.join_some, List.getElem?_cons_zero, List.getElem?_cons_succ, List.set_cons_zero, List.set_cons_succ, List.map_cons, List.map_nil, List.length_cons, List.length_nil, List.replicate, List.cons_append, List.nil_append, Nat.reduceAdd, Nat.reduceSub, if_true, if_false, reduceIte, reduceCtorEq, ite_bind, Bool.false_eq_true, decide_eq_true_eq, List.length_map, decide_true, decide_false, Bool.not_true, Bool.not_false])
local macro_rules | `(tactic| walk_at "nx") => `(tactic| (refine (mSeq_nx (by (walk_at "ev"; rfl))).trans ?_))
theorem below_eq {a : Rs} (w : a.Wf) {m : Int} (h0 : 0 ≤ m) (hm : m < 200001) (hf9 : a.first < 100000) (st : Sto) : m_listed_below [a.d, .int m] st = some (.lst ((a.lb m).map .int), st) := by
  have ht := w.turn
  have hf0 := w.first
  have hfl := fewlen w
  let E : Option D → En := fun g => [some a.d, some (.int m), g, some (.tup (a.few.map .int)), some (.int a.first), some (.int a.turn), some (.tup (a.rests.map .int)), none]
  have first : ms_listed_below_0 [some a.d, some (.int m), none, none, none, none, none, none] st = some (.nx (E none), st) := by
    unfold ms_listed_below_0 Rs.d
    walk_at "ev"
    rfl
  have a1 : ms_listed_below_2 (E none) st = some (.nx (E (some (.lst (((rngI a.first (m - a.first).toNat).filter fun n => decide (n % a.turn ∈ a.rests)).map .int)))), st) := by
    unfold ms_listed_below_2 mAsg
    rw [lc_ints (ns := rngI a.first (m - a.first).toNat) (st1 := st) (by
      dsimp only [E]; walk_at "ev"
      rw [if_pos ⟨small_ok (by omega), small_ok (by omega)⟩, rngD_eq]) (fun x => decide (x % a.turn ∈ a.rests)) .int (by rw [length_rngI]; exact szlt (by omega)) (fun x _ => ⟨[some a.d, some (.int m), none, some (.tup (a.few.map .int)), some (.int a.first), some (.int a.turn), some (.tup (a.rests.map .int)), some (.int x)], rfl, by walk_at "ev"; rw [cMod_ok ht]; walk_at "ev", fun _ => by walk_at "ev"⟩)]
    dsimp only [E]; walk_at "ev"
  have lc : mLc false (miSeq (mV 3)) (.name 7) (mTB (mOp fLt (mV 7) (mV 1))) (mV 7) [7] (E (some (.lst (((rngI a.first (m - a.first).toNat).filter fun n => decide (n % a.turn ∈ a.rests)).map .int)))) st = some (.lst ((a.few.filter fun k => decide (k < m)).map .int), st) :=
    lc_ints (ns := a.few) (st1 := st) (by dsimp only [E]; walk_at "ev") (fun k => decide (k < m)) .int (szlt (by omega)) fun x _ => ⟨[some a.d, some (.int m), some (.lst (((rngI a.first (m - a.first).toNat).filter fun n => decide (n % a.turn ∈ a.rests)).map .int)), some (.tup (a.few.map .int)), some (.int a.first), some (.int a.turn), some (.tup (a.rests.map .int)), some (.int x)], rfl, by walk_at "ev", fun _ => by walk_at "ev"⟩
  refine mDef_rt rfl ((mSeq_nx first).trans ((mSeq_nx a1).trans ?_))
  have l1 := List.length_filter_le (fun k => decide (k < m)) a.few
  have l2 := List.length_filter_le (fun n => decide (n % a.turn ∈ a.rests)) (rngI a.first (m - a.first).toNat)
  rw [length_rngI] at l2
  have key : ∀ q : ME, ∀ g f : List Int, g.length + f.length < 10000000 → q (E (some (.lst (g.map .int)))) st = some (.lst (f.map .int), st) → (mRet (mOp (fAdd false) q (mV 2))) (E (some (.lst (g.map .int)))) st = some (.rt (.lst ((f ++ g).map .int)), st) := by
    intro q g f hl hq
    dsimp only [E] at hq ⊢
    walk_at "ev"
    rw [hq]
    walk_at "ev"
    rw [fAdd_lsts (by rw [List.length_map, List.length_map]; omega), List.map_append]
    walk_at "ev"
  exact key _ _ _ (by omega) lc
end K02


namespace K02
open PySem PySem.Spec PyProof.Rows L2 My
local macro_rules | `(tactic| walk_at "ev") => `(tactic| try simp only [mDef, mSeq, mAsg, mV_eq, mC, mOp, mUn, mCb, mNil, mCons, mTup, mIfS, mTB, mT, mRet, mNext, mgTup, mgCons, mgNil, mgT, mgName, setTg, setTgs, mIf, mAnd, mOr, mNot, mAndV, mOrV, mNotV, fB, fLt_int, fLe, fGt, fGe, fAdd_int, fSub_int, fMod_int, fDiv_int, fMul_int, fNeg_int, fIn_tup, fIn_lst, settle_same, fIx, look_tup, look_d, look_lst, look_fro, lookL_lst, atI_0, atI_1, atI_2, atI_3, fLen_tup, fLen_lst, miSeq, srcOf, mPar, mAug, mRetN, fTuple_lst, fTuple_tup, alloc_f, fEq_int, fMaxL_2, fMinL_2, fSorted_ints, fIsN_int, fIsN_non, fNe_int, mDrop, wipeE, mYes, My.isNon, miRng1, miRng2, fInt_int, truD, fShl_int, fPow_int, fAbs_int, fEq_bl, fIsi_tt, fIsi_it, fIsi_ii, fIsi_ib, fIsi_bt, fIsi_bi, fIsi_bb, fIsi_tb, fIsi_ti, last_concat, List.dropLast_concat, look_loc, lookL_loc, fLen_loc, ixN_0, ixN_1, ixN_2, ixN_3, fSetL_loc, fAppend_loc, fPop_loc, fExtend_loc, mgSub, mMt, alloc_t, mFrz, mSl, mRev, mNone, mSome, mLst, fNeg, fSet_tup, fSet_lst, fInS_int, fSortS_set, fAll_lst, fAdd_tup, mNotT, mCV, mBreak, mCont, z0, z1, z2, z3, z4, z5, z6, z7, z8, z9, List.lookup_cons,
  b_some, b_none, m_some, Option.join_some, List.getElem?_cons_zero, List.getElem?_cons_succ, List.set_cons_zero, List.set_cons_succ, List.map_cons, List.map_nil, List.length_cons, List.length_nil, List.replicate, List.cons_append, List.nil_append, Nat.reduceAdd, Nat.reduceSub, if_true, if_false, reduceIte, reduceCtorEq, ite_bind, Bool.false_eq_true, decide_eq_true_eq, List.length_map, decide_true, decide_false, Bool.not_true, Bool.not_false])
local macro_rules | `(tactic| walk_at "nx") => `(tactic| (refine (mSeq_nx (by (walk_at "ev"; rfl))).trans ?_))
noncomputable abbrev TF : List (Str × MF) := [("is_either", m_is_either), ("is_both", m_is_both), ("is_here", m_is_here)]
theorem common_eq {a b : Rs} (wa : a.Wf) (wb : b.Wf) (ha : a.turn < 10 ^ 8) (hb : b.turn < 10 ^ 8) (st : Sto) : ∃ L : Int, 0 < L ∧ L ≤ a.turn * b.turn ∧ a.turn ∣ L ∧ b.turn ∣ L ∧ L * (Nat.gcd a.turn.natAbs b.turn.natAbs : Nat) = a.turn * b.turn ∧ m_common_turn [a.d, b.d] st = some (.int L, st) := by
  have ta := wa.turn
  have tb := wb.turn
  let g : Nat := Nat.gcd a.turn.natAbs b.turn.natAbs
  have g0 : 0 < g := Nat.gcd_pos_of_pos_left _ (by omega)
  have ga : (g : Int) ∣ a.turn := Int.ofNat_dvd_left.mpr (Nat.gcd_dvd_left _ _)
  have gb : (g : Int) ∣ b.turn := Int.ofNat_dvd_left.mpr (Nat.gcd_dvd_right _ _)
  have gle : g ≤ a.turn.natAbs := Nat.le_of_dvd (by omega) (Nat.gcd_dvd_left _ _)
  obtain ⟨x, hx⟩ := ga
  obtain ⟨y, hy⟩ := gb
  have gi : (0 : Int) < (g : Int) := by omega
  have x0 : 0 < x := by
    refine Int.lt_of_not_ge fun z => ?_
    have := Int.mul_nonpos_of_nonneg_of_nonpos (Int.le_of_lt gi) z
    omega
  have y0 : 0 < y := by
    refine Int.lt_of_not_ge fun z => ?_
    have := Int.mul_nonpos_of_nonneg_of_nonpos (Int.le_of_lt gi) z
    omega
  have hL : a.turn * b.turn / (g : Int) = g * x * y := by
    rw [hx, hy, show (g : Int) * x * ((g : Int) * y) = (g : Int) * ((g : Int) * x * y) by
      rw [Int.mul_assoc, Int.mul_assoc]
      congr 1
      rw [← Int.mul_assoc, Int.mul_comm x, Int.mul_assoc], Int.mul_ediv_cancel_left _ (by omega)]
  have xy : 0 < (g : Int) * x * y := Int.mul_pos (Int.mul_pos gi x0) y0
  refine ⟨(g : Int) * x * y, xy, ?_, ⟨y, by rw [← hx]⟩, ⟨x, by rw [hy, Int.mul_assoc, Int.mul_assoc, Int.mul_comm x]⟩, ?_, ?_⟩
  · have z : (g : Int) * x * y * 1 ≤ (g : Int) * x * y * (g : Int) := Int.mul_le_mul_of_nonneg_left (by omega) (Int.le_of_lt xy)
    rw [Int.mul_one] at z
    refine Int.le_trans z (Int.le_of_eq ?_)
    rw [hx, hy, Int.mul_assoc ((g : Int) * x), Int.mul_comm y]
  · show (g : Int) * x * y * (g : Int) = a.turn * b.turn
    rw [hx, hy, Int.mul_assoc ((g : Int) * x), Int.mul_comm y]
  · refine mDef_rt rfl ?_
    unfold ms_common_turn_0 Rs.d
    walk_at "ev"
    rw [if_pos (cMul_l (by omega))]
    show ((fGcd [.int a.turn, .int b.turn] st).bind fun p => _) = _
    rw [show fGcd [.int a.turn, .int b.turn] st = some (.int (g : Nat), st) from rfl]
    walk_at "ev"
    rw [if_pos (cDiv_ok gi (by omega)), hL]
theorem tog_eq {nm : Str} {f : Bool → Bool → Bool} (hg : ∃ g, TF.lookup nm = some g ∧ ∀ x y st, g [.bl x, .bl y] st = some (.bl (f x y), st)) {a b : Rs} (wa : a.Wf) (wb : b.Wf) {M N : Int} (fa : a.first ≤ M) (fb : b.first ≤ M) (hM : M < 1000) (ht : a.turn * b.turn ≤ N * (Nat.gcd a.turn.natAbs b.turn.natAbs : Nat)) (hN : M + N < 4000) (ta8 : a.turn < 10 ^ 6) (tb8 : b.turn < 10 ^ 6) (st : Sto) :
    ∃ c : Rs, c.Canon ∧ (∀ n, 0 ≤ n → c.has n = f (a.has n) (b.has n)) ∧ (c.first ≤ a.first ∨ c.first ≤ b.first) ∧ c.turn ≤ N ∧ m_together [a.d, b.d, .fn nm] st = some (c.d, st) := by
  have ta := wa.turn
  have tb := wb.turn
  have fa0 := wa.first
  have fb0 := wb.first
  obtain ⟨L, L0, _, La, Lb, Lg, e1⟩ := common_eq wa wb (by omega) (by omega) st
  have L1 : L ≤ N := by
    have g0 : 0 < Nat.gcd a.turn.natAbs b.turn.natAbs := Nat.gcd_pos_of_pos_left _ (by omega)
    rw [← Lg] at ht
    exact Int.le_of_mul_le_mul_right ht (by omega)
  let F : Int := if b.first > a.first then b.first else a.first
  have hF : 0 ≤ F ∧ a.first ≤ F ∧ b.first ≤ F ∧ F ≤ M ∧ (F = a.first ∨ F = b.first) := by
    dsimp only [F]
    split <;> omega
  let T : Int → Bool := fun n => f (a.has n) (b.has n)
  have hT : ∀ n, F ≤ n → T (n + L) = T n := fun n hn => by
    show f _ _ = f _ _
    rw [Rs.per_dvd La L0 ta n (by omega), Rs.per_dvd Lb L0 tb n (by omega)]
  have w := winR_wf (T := T) hF.1 L0
  have wh := fun n (h0 : 0 ≤ n) => winR_has (T := T) hF.1 L0 hT (n := n) h0
  let told : List Int := (rngI 0 (F + L).toNat).filter T
  have htl : told.length < 4000 := by
    have := List.length_filter_le T (rngI 0 (F + L).toNat)
    rw [length_rngI] at this
    show ((rngI 0 (F + L).toNat).filter T).length < 4000
    omega
  have t1 : told.filter (fun m => decide (m < F)) = (winR T F L).few := filt_filt fun k => by
    rw [decide_eq_true_eq]
    omega
  have t2 : told.filter (fun m => decide (F ≤ m)) = (rngI F L.toNat).filter T := filt_filt fun k => by
    rw [decide_eq_true_eq]
    omega
  have lf : (winR T F L).few.length < 4000 := by
    rw [← t1]
    exact Nat.lt_of_le_of_lt (List.length_filter_le _ _) htl
  have lr : (winR T F L).rests.length < 4000 := by
    show (sortI (((rngI F L.toNat).filter T).map fun n => n % L)).length < 4000
    rw [(sortI_perm _).length_eq, List.length_map, ← t2]
    exact Nat.lt_of_le_of_lt (List.length_filter_le _ _) htl
  obtain ⟨c, hc, hh, hf, htn, e2⟩ := formed_eq w lf lr (by show L < _; omega) st
  refine ⟨c, hc, fun n h0 => (hh n h0).trans (wh n h0), by have : (winR T F L).first = F := rfl; omega, by have : (winR T F L).turn = L := rfl; omega, ?_⟩
  let E : Option D → Option D → Option D → Option D → Option D → Option D → En := fun fi tu he th to re => [some a.d, some b.d, some (.fn nm), fi, tu, he, th, to, re, none]
  have a0 : ms_together_0 (E none none none none none none) st = some (.nx (E (some (.int F)) none none none none none), st) := by
    unfold ms_together_0
    dsimp only [E, Rs.d]; walk_at "ev"
    rfl
  have a1 : ms_together_2 (E (some (.int F)) none none none none none) st = some (.nx (E (some (.int F)) (some (.int L)) none none none none), st) := by
    unfold ms_together_2
    dsimp only [E]; walk_at "ev"
    rw [e1]
    walk_at "ev"
  have la := a.lb_len wa (F + L)
  have lb := b.lb_len wb (F + L)
  have a2 : ms_together_4 (E (some (.int F)) (some (.int L)) none none none none) st = some (.nx (E (some (.int F)) (some (.int L)) (some (.set (a.lb (F + L)))) none none none), st) := by
    unfold ms_together_4
    dsimp only [E]; walk_at "ev"
    rw [below_eq wa (by omega) (by omega) (by omega)]
    walk_at "ev"
    rw [if_pos (by omega)]
  have a3 : ms_together_6 (E (some (.int F)) (some (.int L)) (some (.set (a.lb (F + L)))) none none none) st = some (.nx (E (some (.int F)) (some (.int L)) (some (.set (a.lb (F + L)))) (some (.set (b.lb (F + L)))) none none), st) := by
    unfold ms_together_6
    dsimp only [E]; walk_at "ev"
    rw [below_eq wb (by omega) (by omega) (by omega)]
    walk_at "ev"
    rw [if_pos (by omega)]
  let E4 : Option D → Option D → En := fun to re => E (some (.int F)) (some (.int L)) (some (.set (a.lb (F + L)))) (some (.set (b.lb (F + L)))) to re
  obtain ⟨g, hg1, hg2⟩ := hg
  have a4 : ms_together_8 (E4 none none) st = some (.nx (E4 (some (.lst (told.map .int))) none), st) := by
    have lc : (mLc false (miRng1 (mCons (mOp (fAdd false) (mV 3) (mV 4)) mNil)) (.name 9) (mT (mCV 2 TF (mCons (mOp (fInS false) (mV 9) (mV 5)) (mCons (mOp (fInS false) (mV 9) (mV 6)) mNil)))) (mV 9) [9]) (E4 none none) st = some (.lst (told.map .int), st) := by
      exact lc_ints (ns := rngI 0 (F + L).toNat) (st1 := st) (by
        dsimp only [E4, E]; walk_at "ev"
        rw [if_pos (small_ok (by omega)), rngD_eq]) T .int (by rw [length_rngI]; exact szlt (by omega)) fun x hx => ⟨(E4 none none).set 9 (some (.int x)), rfl, by
        have hx2 := mem_rngI.mp hx
        have m1 : decide (x ∈ a.lb (F + L)) = a.has x := by
          have z := a.mem_lb wa (m := F + L) (k := x)
          cases hh : a.has x with
          | true => exact decide_eq_true (z.mpr ⟨by omega, by omega, hh⟩)
          | false => exact decide_eq_false fun q => by have := (z.mp q).2.2; rw [hh] at this; cases this
        have m2 : decide (x ∈ b.lb (F + L)) = b.has x := by
          have z := b.mem_lb wb (m := F + L) (k := x)
          cases hh : b.has x with
          | true => exact decide_eq_true (z.mpr ⟨by omega, by omega, hh⟩)
          | false => exact decide_eq_false fun q => by have := (z.mp q).2.2; rw [hh] at this; cases this
        dsimp only [E4, E]
        unfold mT
        rw [mCV_eq rfl hg1]
        walk_at "ev"
        rw [m1, m2, hg2]
        rfl, fun _ => by dsimp only [E4, E]; walk_at "ev"⟩
    have key : ∀ q : ME, ∀ d s, q (E4 none none) st = some (d, s) → (mAsg q (mgName 7)) (E4 none none) st = some (.nx (E4 (some d) none), s) := by
      intro q d s hq
      dsimp only [E4, E] at hq ⊢
      walk_at "ev"
      rw [hq]
      walk_at "ev"
    exact key _ _ _ lc
  have a5 : ms_together_10 (E4 (some (.lst (told.map .int))) none) st = some (.nx (E4 (some (.lst (told.map .int))) (some (.tup ((winR T F L).rests.map .int)))), st) := by
    have lc : (mLc false (miSeq (mV 7)) (.name 9) (mTB (mOp fGe (mV 9) (mV 3))) (mOp fMod (mV 9) (mV 4)) [9]) (E4 (some (.lst (told.map .int))) none) st = some (.lst ((((rngI F L.toNat).filter T).map fun n => n % L).map .int), st) := by
      rw [lc_ints (ns := told) (st1 := st) (by dsimp only [E4, E]; walk_at "ev") (fun m => decide (F ≤ m)) (fun m => .int (m % L)) (szlt (by omega)) fun x _ => ⟨(E4 (some (.lst (told.map .int))) none).set 9 (some (.int x)), rfl, by dsimp only [E4, E]; walk_at "ev", fun _ => by
        dsimp only [E4, E]; walk_at "ev"
        rw [cMod_ok L0]
        walk_at "ev"⟩, t2, List.map_map]
      rfl
    have key : ∀ q : ME, ∀ ms : List Int, q (E4 (some (.lst (told.map .int))) none) st = some (.lst (ms.map .int), st) → (mAsg (mCb fTuple (mCons (mCb (fSorted false) (mCons q mNil)) mNil)) (mgName 8)) (E4 (some (.lst (told.map .int))) none) st = some (.nx (E4 (some (.lst (told.map .int))) (some (.tup ((sortI ms).map .int)))), st) := by
      intro q ms hq
      dsimp only [E4, E] at hq ⊢
      walk_at "ev"
      rw [hq]
      walk_at "ev"
    exact key _ _ lc
  have a6 : ms_together_12 (E4 (some (.lst (told.map .int))) (some (.tup ((winR T F L).rests.map .int)))) st = some (.rt c.d, st) := by
    have lc : (mLc false (miSeq (mV 7)) (.name 9) (mTB (mOp fLt (mV 9) (mV 3))) (mV 9) [9]) (E4 (some (.lst (told.map .int))) (some (.tup ((winR T F L).rests.map .int)))) st = some (.lst ((winR T F L).few.map .int), st) := by
      rw [lc_ints (ns := told) (st1 := st) (by dsimp only [E4, E]; walk_at "ev") (fun m => decide (m < F)) .int (szlt (by omega)) fun x _ => ⟨(E4 (some (.lst (told.map .int))) (some (.tup ((winR T F L).rests.map .int)))).set 9 (some (.int x)), rfl, by dsimp only [E4, E]; walk_at "ev", fun _ => by dsimp only [E4, E]; walk_at "ev"⟩, t1]
      rfl
    have key : ∀ q : ME, q (E4 (some (.lst (told.map .int))) (some (.tup ((winR T F L).rests.map .int)))) st = some (.lst ((winR T F L).few.map .int), st) → (mRet (mCb m_formed (mCons (mCb fTuple (mCons q mNil)) (mCons (mV 3) (mCons (mV 4) (mCons (mV 8) mNil)))))) (E4 (some (.lst (told.map .int))) (some (.tup ((winR T F L).rests.map .int)))) st = some (.rt c.d, st) := by
      intro q hq
      dsimp only [E4, E] at hq ⊢
      walk_at "ev"
      rw [hq]
      walk_at "ev"
      rw [show m_formed [.tup ((winR T F L).few.map .int), .int F, .int L, .tup ((winR T F L).rests.map .int)] st = _ from e2]
      walk_at "ev"
    exact key _ lc
  exact mDef_rt rfl ((mSeq_nx a0).trans ((mSeq_nx a1).trans ((mSeq_nx a2).trans ((mSeq_nx a3).trans ((mSeq_nx a4).trans ((mSeq_nx a5).trans a6))))))

theorem either_eq (x y : Bool) (st : Sto) : m_is_either [.bl x, .bl y] st = some (.bl (x || y), st) := by
  refine mDef_rt rfl ?_
  cases x <;> walk_at "ev" <;> rfl
theorem both_eq (x y : Bool) (st : Sto) : m_is_both [.bl x, .bl y] st = some (.bl (x && y), st) := by
  refine mDef_rt rfl ?_
  cases x <;> walk_at "ev" <;> rfl
theorem here_eq (x y : Bool) (st : Sto) : m_is_here [.bl x, .bl y] st = some (.bl (x && !y), st) := by
  refine mDef_rt rfl ?_
  cases x <;> walk_at "ev" <;> rfl
/-- what two sets must be, that they may be put together -/
structure Fit (a b : Rs) : Prop where
  wa : a.Wf
  wb : b.Wf
  fa : a.first ≤ 400
  fb : b.first ≤ 400
  ta : a.turn ≤ 60
  tb : b.turn ≤ 60
theorem Fit.swap {a b : Rs} (h : Fit a b) : Fit b a := ⟨h.wb, h.wa, h.fb, h.fa, h.tb, h.ta⟩
theorem Fit.lcm {a b : Rs} (h : Fit a b) : a.turn * b.turn ≤ 3540 * (Nat.gcd a.turn.natAbs b.turn.natAbs : Nat) := by
  have ta0 := h.wa.turn
  have tb0 := h.wb.turn
  have ta := h.ta
  have tb := h.tb
  have g0 : 0 < Nat.gcd a.turn.natAbs b.turn.natAbs := Nat.gcd_pos_of_pos_left _ (by omega)
  have mono : ∀ x y : Int, 0 < x → 0 < y → x ≤ 60 → y ≤ 59 → x * y ≤ 3540 := fun x y x0 y0 x1 y1 => by
    have h1 := Int.mul_le_mul_of_nonneg_left y1 (Int.le_of_lt x0)
    omega
  by_cases e : b.turn ≤ 59
  · have := mono _ _ ta0 tb0 ta e
    omega
  · by_cases e2 : a.turn ≤ 59
    · have := mono _ _ tb0 ta0 tb e2
      rw [Int.mul_comm] at this
      omega
    · have ea : a.turn = 60 := by omega
      have eb : b.turn = 60 := by omega
      rw [ea, eb]
      decide
theorem put_eq {nm : Str} {f : Bool → Bool → Bool} (hg : ∃ g, TF.lookup nm = some g ∧ ∀ x y st, g [.bl x, .bl y] st = some (.bl (f x y), st)) {a b : Rs} (h : Fit a b) {c : Rs} (hc : c.Canon) (hh : ∀ n, 0 ≤ n → c.has n = f (a.has n) (b.has n)) (st : Sto) : m_together [a.d, b.d, .fn nm] st = some (c.d, st) := by
  have := h.ta
  have := h.tb
  obtain ⟨d, h1, h2, _, _, e⟩ := tog_eq hg h.wa h.wb (M := 400) (N := 3540) h.fa h.fb (by decide) h.lcm (by decide) (by omega) (by omega) st
  rw [e, h1.uniq hc fun n h0 => (h2 n h0).trans (hh n h0).symm]
theorem union_eq {a b c : Rs} (h : Fit a b) (hc : c.Canon) (hh : ∀ n, 0 ≤ n → c.has n = (a.has n || b.has n)) (st : Sto) : m_union [a.d, b.d] st = some (c.d, st) := by
  refine mDef_rt rfl ?_
  unfold ms_union_0
  walk_at "ev"
  rw [put_eq (nm := "is_either") (f := fun x y => x || y) ⟨m_is_either, rfl, either_eq⟩ h hc hh]
  walk_at "ev"
theorem meet_eq {a b c : Rs} (h : Fit a b) (hc : c.Canon) (hh : ∀ n, 0 ≤ n → c.has n = (a.has n && b.has n)) (st : Sto) : m_meet [a.d, b.d] st = some (c.d, st) := by
  refine mDef_rt rfl ?_
  unfold ms_meet_0
  walk_at "ev"
  rw [put_eq (nm := "is_both") (f := fun x y => x && y) ⟨m_is_both, rfl, both_eq⟩ h hc hh]
  walk_at "ev"
theorem less_eq {a b c : Rs} (h : Fit a b) (hc : c.Canon) (hh : ∀ n, 0 ≤ n → c.has n = (a.has n && !b.has n)) (st : Sto) : m_less [a.d, b.d] st = some (c.d, st) := by
  refine mDef_rt rfl ?_
  unfold ms_less_0
  walk_at "ev"
  rw [put_eq (nm := "is_here") (f := fun x y => x && !y) ⟨m_is_here, rfl, here_eq⟩ h hc hh]
  walk_at "ev"
end K02


namespace K02
open PySem PySem.Spec PyProof.Rows L2 My
local macro_rules | `(tactic| walk_at "ev") => `(tactic| try simp only [mDef, mSeq, mAsg, mV_eq, mC, mOp, mUn, mCb, mNil, mCons, mTup, mIfS, mTB, mT, mRet, mNext, mgTup, mgCons, mgNil, mgT, mgName, setTg, setTgs, mIf, mAnd, mOr, mNot, mAndV, mOrV, mNotV, fB, fLt_int, fLe, fGt, fGe, fAdd_int, fSub_int, fMod_int, fDiv_int, fMul_int, fNeg_int, fIn_tup, fIn_lst, settle_same, fIx, look_tup, look_d, look_lst, look_fro, lookL_lst, atI_0, atI_1, atI_2, atI_3, fLen_tup, fLen_lst, miSeq, srcOf, mPar, mAug, mRetN, fTuple_lst, fTuple_tup, alloc_f, fEq_int, fMaxL_2, fMinL_2, fSorted_ints, fIsN_int, fIsN_non, fNe_int, mDrop, wipeE, mYes, My.isNon, miRng1, miRng2, fInt_int, truD, fShl_int, fPow_int, fAbs_int, fEq_bl, fIsi_tt, fIsi_it, fIsi_ii, fIsi_ib, fIsi_bt, fIsi_bi, fIsi_bb, fIsi_tb, fIsi_ti, last_concat, List.dropLast_concat, look_loc, lookL_loc, fLen_loc, ixN_0, ixN_1, ixN_2, ixN_3, fSetL_loc, fAppend_loc, fPop_loc, fExtend_loc, mgSub, mMt, alloc_t, mFrz, mSl, mRev, mNone, mSome, mLst, fNeg, fSet_tup, fSet_lst, fInS_int, fSortS_set, fAll_lst, fAdd_tup, mNotT, mCV, mBreak, mCont, z0, z1, z2, z3, z4, z5, z6, z7, z8, z9, List.lookup_cons,
  b_some, b_none, m_some, Option.join_some, List.getElem?_cons_zero, List.getElem?_cons_succ, List.set_cons_zero, List.set_cons_succ, List.map_cons, List.map_nil, List.length_cons, List.length_nil, List.replicate, List.cons_append, List.nil_append, Nat.reduceAdd, Nat.reduceSub, if_true, if_false, reduceIte, reduceCtorEq, ite_bind, Bool.false_eq_true, decide_eq_true_eq, List.length_map, decide_true, decide_false, Bool.not_true, Bool.not_false])
local macro_rules | `(tactic| walk_at "nx") => `(tactic| (refine (mSeq_nx (by (walk_at "ev"; rfl))).trans ?_))
theorem form_of_eq {T : Int → Bool} {N : Nat} {b t : Int} (hb : 0 ≤ b) (hb9 : b < 10 ^ 6) (ht : 0 < t) (ht9 : t < 10 ^ 6) (hN : b + t ≤ N) (hT : ∀ n, b ≤ n → T (n + t) = T n) (st : Sto) :
    ∃ c : Rs, c.Canon ∧ (∀ n, 0 ≤ n → c.has n = T n) ∧ c.first ≤ b ∧ c.turn ≤ t ∧ m__law_form_of [.lst (bl T 0 N), .int b, .int t] st = some (c.d, st) := by
  let E : Option D → Option D → Option D → Option D → Option D → En := fun p l a r w => [some (.lst (bl T 0 N)), some (.int b), some (.int t), p, l, a, r, w, none, none]
  let piece : D := .lst (bl T b t.toNat)
  have a0 : ms__law_form_of_6 (E none none none none none) st = some (.nx (E (some piece) none none none none), st) := by
    unfold ms__law_form_of_6
    dsimp only [E, piece]; walk_at "ev"
    simp only [fSl, look_lst, m_some, b_some, alloc_f]
    rw [cut_mid _ hb (by omega) (by rw [bl_len]; omega), bl_drop (by omega), bl_take (by omega), show b + t - b = t by omega, show (0 : Int) + (b.toNat : Nat) = b by omega]
    walk_at "ev"
  have tst : (mTB (mOp (fIn true) (mC (.bl true)) (mV 3))) (E (some piece) none none none none) st = some (!decide (true ∈ (rngI b t.toNat).map T), st) := by
    dsimp only [E, piece, bl]; walk_at "ev"
    rw [fIn_bools]
    rfl
  have few_lc : ∀ (m : Int) (p l a r w : Option D), 0 ≤ m → m ≤ b → ∀ (k : Nat) (ix : ME), (k = 5 ∨ k = 9) → ix (E p l a r w) st = some (.int m, st) → (mLc false (miRng1 (mCons ix mNil)) (.name k) (mT (mOp fIx (mV 0) (mV k))) (mV k) [k]) (E p l a r w) st = some (.lst (((rngI 0 m.toNat).filter T).map .int), st) := by
    intro m p l a r w m0 mb k ix hk hix
    have go : ∀ x ∈ rngI 0 m.toNat, ∃ en', setTg (.name k) (.int x) (wipeE (E p l a r w) [k]) = some en' ∧ (mT (mOp fIx (mV 0) (mV k))) en' st = some (T x, st) ∧ (T x = true → mV k en' st = some (.int x, st)) := by
      intro x hx
      have hx2 := mem_rngI.mp hx
      rcases hk with rfl | rfl
      · refine ⟨(E p l a r w).set 5 (some (.int x)), rfl, ?_, fun _ => by dsimp only [E]; walk_at "ev"⟩
        dsimp only [E]; walk_at "ev"
        rw [atI_bl (by omega) (by omega)]
        walk_at "ev"
        rw [show 0 + x = x by omega]
      · refine ⟨(E p l a r w).set 9 (some (.int x)), rfl, ?_, fun _ => by dsimp only [E]; walk_at "ev"⟩
        dsimp only [E]; walk_at "ev"
        rw [atI_bl (by omega) (by omega)]
        walk_at "ev"
        rw [show 0 + x = x by omega]
    exact lc_ints (ns := rngI 0 m.toNat) (st1 := st) (by
      dsimp only [E] at hix ⊢; walk_at "ev"
      rw [hix]
      walk_at "ev"
      rw [if_pos (small_ok (by omega)), rngD_eq]) T .int (by rw [length_rngI]; exact szlt (by omega)) go
  by_cases hz : true ∈ (rngI b t.toNat).map T
  · have a1 : ms__law_form_of_8 (E (some piece) none none none none) st = some (.nx (E (some piece) none none none none), st) := (mIfS_f (st1 := st) (by rw [tst, decide_eq_true hz]; rfl)).trans rfl
    let W := winR T b t
    have hW : ∀ n, b ≤ n → W.P n = T n := fun n hn => winR_P ht hT hn
    have hWt : Per W.P t := W.perP
    let good : Int → Bool := fun l => decide (t % l = 0) && decide ((rngI (b + l.toNat) (t.toNat - l.toNat)).map T ++ (rngI b l.toNat).map T = (rngI b t.toNat).map T)
    have goodI : ∀ l, 0 < l → l ≤ t → (good l = true ↔ t % l = 0 ∧ Per W.P l) := fun l l0 l1 => by
      show (decide _ && decide _) = true ↔ _
      rw [Bool.and_eq_true, decide_eq_true_eq, decide_eq_true_eq, turn_per ht hW hWt l0 l1]
    obtain ⟨o, s1, a2, k2⟩ := for_inv (mi := miRng2 (mCons (mC (.int 1)) (mCons (mOp (fAdd false) (mV 2) (mC (.int 1))) mNil))) (T := .name 4) (b := ms__law_form_of_4) (en := E (some piece) none none none none) (st := st) (st1 := st) (s := ⟨rngD 1 t.toNat, none⟩) (by
        dsimp only [E]; walk_at "ev"
        rw [if_pos ⟨small_ok (by omega), small_ok (by omega)⟩, show (t + 1 - 1).toNat = t.toNat by omega])
      (fun i en s => s = st ∧ (∃ l, en = E (some piece) l none none none) ∧ ∀ c, 0 < c → c ≤ (i : Int) → ¬ (t % c = 0 ∧ Per W.P c)) (fun en s => s = st ∧ ∃ l, en = E (some piece) (some (.int l)) none none none ∧ 0 < l ∧ l ≤ t ∧ t % l = 0 ∧ Per W.P l ∧ ∀ c, 0 < c → c < l → t % c = 0 → ¬ Per W.P c) (fun _ _ => False) (fun _ _ _ _ => ok_none) ⟨rfl, ⟨_, rfl⟩, fun c c0 c1 => by omega⟩ (by
        rintro i d en s hd ⟨rfl, ⟨l, rfl⟩, hm⟩
        obtain ⟨rfl, hi⟩ := rng_get hd
        have hl1 : (1 : Int) + i ≤ t := by omega
        have tg : (mAnd (mTB (mOp fEq (mOp fMod (mV 2) (mV 4)) (mC (.int 0)))) (mTB (mOp fEq (mOp (fAdd false) (mSl false (mV 3) (mSome (mV 4)) mNone) (mSl false (mV 3) mNone (mSome (mV 4)))) (mV 3)))) (E (some piece) (some (.int (1 + i))) none none none) s = some (good (1 + i), s) := by
          dsimp only [E, good]; walk_at "ev"
          rw [cMod_ok (by omega)]
          by_cases hm0 : t % (1 + (i : Int)) = 0
          · simp only [hm0, decide_true, Bool.true_and, if_true]
            dsimp only [piece]; walk_at "ev"
            simp only [fSl, look_lst, m_some, b_some, alloc_f]
            rw [cut_drop _ (by omega), cutD_take _ _ (by omega), bl_drop (by omega), bl_take (by omega), fAdd_lsts (by rw [bl_len, bl_len]; omega)]
            walk_at "ev"
            unfold bl
            rw [← List.map_append, fEq_bools]
            rfl
          · simp only [hm0, decide_false, Bool.false_and, if_true]
            walk_at "ev"
        by_cases hg : good (1 + i) = true
        · have hg2 := (goodI (1 + i) (by omega) hl1).mp hg
          refine ⟨E (some piece) (some (.int (1 + i))) none none none, .bk (E (some piece) (some (.int (1 + i))) none none none), s, rfl, (mIfS_t (st1 := s) (by rw [tg, hg])).trans rfl, rfl, _, rfl, by omega, hl1, hg2.1, hg2.2, fun c c0 c1 c2 c3 => hm c c0 (by omega) ⟨c2, c3⟩⟩
        · refine ⟨E (some piece) (some (.int (1 + i))) none none none, .nx (E (some piece) (some (.int (1 + i))) none none none), s, rfl, (mIfS_f (st1 := s) (by rw [tg]; simp only [Bool.not_eq_true] at hg; rw [hg])).trans rfl, rfl, ⟨_, rfl⟩, fun c c0 c1 hc => ?_⟩
          by_cases e : c = 1 + i
          · subst e
            exact hg ((goodI _ c0 hl1).mpr hc)
          · exact hm c c0 (by omega) hc)
    cases o with
    | nx e =>
      have k3 : s1 = st ∧ ∃ l, e = E (some piece) (some (.int l)) none none none ∧ 0 < l ∧ l ≤ t ∧ t % l = 0 ∧ Per W.P l ∧ ∀ c, 0 < c → c < l → t % c = 0 → ¬ Per W.P c := by
        rcases k2 with ⟨_, _, z⟩ | k2
        · exfalso
          refine z t ht ?_ ⟨Int.emod_self, hWt⟩
          simp [rngD]
          omega
        · exact k2
      obtain ⟨rfl, l, rfl, l0, l1, l2, hl, hm⟩ := k3
      have a3 : (mAsg (mV 1) (mgName 5)) (E (some piece) (some (.int l)) none none none) s1 = some (.nx (E (some piece) (some (.int l)) (some (.int b)) none none), s1) := rfl
      let fi : En → Int := fun en => match en[5]? with
        | some (some (D.int f)) => f
        | _ => 0
      obtain ⟨o, s2, a4, k5⟩ := wh_inv (c := (mAnd (mTB (mOp fGt (mV 5) (mC (.int 0)))) (mTB (mOp fEq (mOp fIx (mV 0) (mOp fSub (mV 5) (mC (.int 1)))) (mOp fIx (mV 0) (mOp (fAdd false) (mOp fSub (mV 5) (mC (.int 1))) (mV 4))))))) (b := (mAsg (mOp fSub (mV 5) (mC (.int 1))) (mgName 5))) (en := E (some piece) (some (.int l)) (some (.int b)) none none) (st := s1)
        (fun en s => s = s1 ∧ ∃ f, en = E (some piece) (some (.int l)) (some (.int f)) none none ∧ 0 ≤ f ∧ f ≤ b ∧ ∀ n, f ≤ n → n < b → T n = W.P n) (fun en _ => (fi en).toNat)
        (fun en s => s = s1 ∧ ∃ f, en = E (some piece) (some (.int l)) (some (.int f)) none none ∧ 0 ≤ f ∧ f ≤ b ∧ (∀ n, f ≤ n → n < b → T n = W.P n) ∧ (0 < f → T (f - 1) ≠ W.P (f - 1))) (fun _ _ => False) ⟨rfl, b, rfl, hb, Int.le_refl _, fun n _ _ => by omega⟩ (by
          rintro en s ⟨rfl, f, rfl, f0, f1, f2⟩
          by_cases hz : 0 < f
          · have q : T (f - 1 + l) = W.P (f - 1) := by
              rw [← hl (f - 1)]
              by_cases c : f - 1 + l < b
              · exact f2 _ (by omega) c
              · exact (hW _ (by omega)).symm
            refine ⟨decide (T (f - 1) = T (f - 1 + l)), s, ?_, fun h => ⟨rfl, f, rfl, f0, f1, f2, fun _ => by rw [← q]; exact of_decide_eq_false h⟩, fun h => ⟨.nx (E (some piece) (some (.int l)) (some (.int (f - 1))) none none), s, rfl, ⟨rfl, f - 1, rfl, by omega, by omega, fun n h1 h2 => ?_⟩, ?_⟩⟩
            · dsimp only [E]; walk_at "ev"
              rw [if_pos hz, atI_bl (by omega) (by omega)]
              walk_at "ev"
              rw [atI_bl (by omega) (by omega)]
              walk_at "ev"
              rw [show 0 + (f - 1) = f - 1 by omega, show 0 + (f - 1 + l) = f - 1 + l by omega]
            · by_cases e : n = f - 1
              · subst e
                rw [← q]
                exact of_decide_eq_true h
              · exact f2 n (by omega) h2
            · show (f - 1).toNat < f.toNat
              omega
          · refine ⟨false, s, ?_, fun _ => ⟨rfl, f, rfl, f0, f1, f2, fun h => absurd h hz⟩, (fun h => by cases h)⟩
            dsimp only [E]; walk_at "ev"
            rw [if_neg hz])
      cases o with
      | nx e =>
        obtain ⟨rfl, f, rfl, f0, f1, f2, f3⟩ := k5
        obtain ⟨hc, hh⟩ := winC ht hT f0 l0 l2 hl hm f2 f3
        let R : D := .lst ((winR T f l).rests.map .int)
        have a5 : ms__law_form_of_14 (E (some piece) (some (.int l)) (some (.int f)) none none) s2 = some (.nx (E (some piece) (some (.int l)) (some (.int f)) (some R) none), s2) := by
          have lc : (mLc false (miRng1 (mCons (mV 4) mNil)) (.name 8) (mT (mOp fIx (mV 0) (mOp (fAdd false) (mV 5) (mV 8)))) (mOp fMod (mCb fInt (mCons (mOp (fAdd false) (mV 5) (mV 8)) mNil)) (mV 4)) [8]) (E (some piece) (some (.int l)) (some (.int f)) none none) s2 = some (.lst ((((rngI f l.toNat).filter T).map fun n => n % l).map .int), s2) := by
            rw [lc_ints (ns := rngI 0 l.toNat) (st1 := s2) (by
              dsimp only [E]; walk_at "ev"
              rw [if_pos (small_ok (by omega)), rngD_eq]) (fun k => T (f + k)) (fun k => .int ((f + k) % l)) (by rw [length_rngI]; exact szlt (by omega)) fun x hx => ⟨(E (some piece) (some (.int l)) (some (.int f)) none none).set 8 (some (.int x)), rfl, by
              have := mem_rngI.mp hx
              dsimp only [E]; walk_at "ev"
              rw [atI_bl (by omega) (by omega)]
              walk_at "ev"
              rw [show 0 + (f + x) = f + x by omega], fun _ => by
              dsimp only [E]; walk_at "ev"
              rw [cMod_ok l0]
              walk_at "ev"⟩]
            rw [rngI_shift f, List.filter_map, List.map_map, List.map_map]
            rfl
          have key : ∀ q : ME, ∀ ms : List Int, (winR T f l).rests = sortI ms → q (E (some piece) (some (.int l)) (some (.int f)) none none) s2 = some (.lst (ms.map .int), s2) → (mAsg (mCb (fSorted false) (mCons q mNil)) (mgName 6)) (E (some piece) (some (.int l)) (some (.int f)) none none) s2 = some (.nx (E (some piece) (some (.int l)) (some (.int f)) (some R) none), s2) := by
            intro q ms hms hq
            dsimp only [E, R] at hq ⊢
            walk_at "ev"
            rw [hq]
            walk_at "ev"
            rw [hms]
          exact key _ _ rfl lc
        have a6 : ms__law_form_of_16 (E (some piece) (some (.int l)) (some (.int f)) (some R) none) s2 = some (.rt (winR T f l).d, s2) := by
          have l1c := few_lc f (some piece) (some (.int l)) (some (.int f)) (some R) none f0 f1 9 (mV 5) (.inr rfl) (by dsimp only [E]; walk_at "ev")
          have key : ∀ q1 : ME, ∀ ms : List Int, q1 (E (some piece) (some (.int l)) (some (.int f)) (some R) none) s2 = some (.lst (ms.map .int), s2) → (mRet (mTup (mCons (mCb fTuple (mCons q1 mNil)) (mCons (mV 5) (mCons (mV 4) (mCons (mCb fTuple (mCons (mV 6) mNil)) mNil)))))) (E (some piece) (some (.int l)) (some (.int f)) (some R) none) s2 = some (.rt (.tup [.tup (ms.map .int), .int f, .int l, .tup ((winR T f l).rests.map .int)]), s2) := by
            intro q1 ms h1
            dsimp only [E, R] at h1 ⊢
            walk_at "ev"
            rw [h1]
            walk_at "ev"
          exact key _ _ l1c
        exact ⟨winR T f l, hc, hh, f1, l1, mDef_rt rfl ((mSeq_nx a0).trans ((mSeq_nx a1).trans ((mSeq_nx a2).trans ((mSeq_nx a3).trans ((mSeq_nx a4).trans ((mSeq_nx a5).trans a6))))))⟩
      | _ => exact k5.elim
    | _ => exact k2.elim
  · have hF : ∀ n, b ≤ n → T n = false := fun n hn => by
      obtain ⟨m, h1, h2, h3⟩ := win_rep (f := b) ht n
      rw [← far_same ht hT h1 hn h3]
      cases hh : T m with
      | false => rfl
      | true => exact absurd (List.mem_map.mpr ⟨m, mem_rngI.mpr (by omega), hh⟩) hz
    obtain ⟨c1, c2, c3⟩ := endR_ok hF
    have hs := (rngI_lt 0 b.toNat).filter T
    obtain ⟨last, h1, h2, h3, h4⟩ : ∃ last : Int, (-1 :: (rngI 0 b.toNat).filter T).max? = some last ∧ (endR T b).d = .tup [.tup (((rngI 0 (last + 1).toNat).filter T).map .int), .int (last + 1), .int 1, .tup []] ∧ -1 ≤ last ∧ last + 1 ≤ b := by
      cases hl : ((rngI 0 b.toNat).filter T).getLast? with
      | none =>
        have e := List.getLast?_eq_none_iff.mp hl
        refine ⟨-1, by rw [e]; rfl, ?_, by omega, by omega⟩
        unfold endR Rs.d
        rw [e]
        rfl
      | some k =>
        obtain ⟨m1, m2⟩ := last_top hs hl
        have kb := mem_rngI.mp (List.mem_filter.mp m1).1
        refine ⟨k, List.max?_eq_some_iff.mpr ⟨List.mem_cons_of_mem _ m1, fun x hx => ?_⟩, ?_, by omega, by omega⟩
        · rcases List.mem_cons.mp hx with rfl | z
          · omega
          · exact m2 x z
        · have e : (rngI 0 b.toNat).filter T = (rngI 0 (k + 1).toNat).filter T := by
            refine lt_uniq hs ((rngI_lt _ _).filter _) fun x => ?_
            rw [List.mem_filter, List.mem_filter, mem_rngI, mem_rngI]
            constructor
            · rintro ⟨z1, z2⟩
              have := m2 x (List.mem_filter.mpr ⟨mem_rngI.mpr z1, z2⟩)
              exact ⟨by omega, z2⟩
            · rintro ⟨z1, z2⟩
              exact ⟨by omega, z2⟩
          unfold endR Rs.d
          rw [hl, e]
          rfl
    have a1 : ms__law_form_of_0 (E (some piece) none none none none) st = some (.nx (E (some piece) none none none (some (.int last))), st) := by
      have lc := few_lc b (some piece) none none none none hb (Int.le_refl _) 5 (mV 1) (.inl rfl) (by dsimp only [E]; walk_at "ev")
      have key : ∀ q : ME, q (E (some piece) none none none none) st = some (.lst (((rngI 0 b.toNat).filter T).map .int), st) → (mAsg (mCb fMaxL (mCons (mOp (fAdd false) (mLst false (mCons (mUn fNeg (mC (.int 1))) mNil)) q) mNil)) (mgName 7)) (E (some piece) none none none none) st = some (.nx (E (some piece) none none none (some (.int last))), st) := by
        intro q hq
        have hlen := List.length_filter_le T (rngI 0 b.toNat)
        rw [length_rngI] at hlen
        dsimp only [E] at hq ⊢
        walk_at "ev"
        rw [hq]
        walk_at "ev"
        rw [fAdd_lsts (by rw [List.length_map]; simp only [List.length_cons, List.length_nil]; omega)]
        walk_at "ev"
        rw [show (D.int (-1) :: ((rngI 0 b.toNat).filter T).map D.int) = (-1 :: (rngI 0 b.toNat).filter T).map D.int from rfl, fMaxL_ints _ _ h1]
        walk_at "ev"
      exact key _ lc
    have a2 : ms__law_form_of_2 (E (some piece) none none none (some (.int last))) st = some (.rt (endR T b).d, st) := by
      have lc := few_lc (last + 1) (some piece) none none none (some (.int last)) (by omega) h4 5 (mOp (fAdd false) (mV 7) (mC (.int 1))) (.inl rfl) (by dsimp only [E]; walk_at "ev")
      have key : ∀ q : ME, ∀ ms : List Int, q (E (some piece) none none none (some (.int last))) st = some (.lst (ms.map .int), st) → (mRet (mTup (mCons (mCb fTuple (mCons q mNil)) (mCons (mOp (fAdd false) (mV 7) (mC (.int 1))) (mCons (mC (.int 1)) (mCons (mTup mNil) mNil)))))) (E (some piece) none none none (some (.int last))) st = some (.rt (.tup [.tup (ms.map .int), .int (last + 1), .int 1, .tup []]), st) := by
        intro q ms hq
        dsimp only [E] at hq ⊢
        walk_at "ev"
        rw [hq]
        walk_at "ev"
      rw [h2]
      exact key _ _ lc
    exact ⟨endR T b, c1, c2, by omega, by show (1 : Int) ≤ t; omega, mDef_rt rfl ((mSeq_nx a0).trans (mSeq_rt ((mIfS_t (st1 := st) (by rw [tst, decide_eq_false hz]; rfl)).trans ((mSeq_nx a1).trans a2))))⟩
end K02


namespace K02
open PySem PySem.Spec PyProof.Rows L2 My
local macro_rules | `(tactic| walk_at "ev") => `(tactic| try simp only [mDef, mSeq, mAsg, mV_eq, mC, mOp, mUn, mCb, mNil, mCons, mTup, mIfS, mTB, mT, mRet, mNext, mgTup, mgCons, mgNil, mgT, mgName, setTg, setTgs, mIf, mAnd, mOr, mNot, mAndV, mOrV, mNotV, fB, fLt_int, fLe, fGt, fGe, fAdd_int, fSub_int, fMod_int, fDiv_int, fMul_int, fNeg_int, fIn_tup, fIn_lst, settle_same, fIx, look_tup, look_d, look_lst, look_fro, lookL_lst, atI_0, atI_1, atI_2, atI_3, fLen_tup, fLen_lst, miSeq, srcOf, mPar, mAug, mRetN, fTuple_lst, fTuple_tup, alloc_f, fEq_int, fMaxL_2, fMinL_2, fSorted_ints, fIsN_int, fIsN_non, fNe_int, mDrop, wipeE, mYes, My.isNon, miRng1, miRng2, fInt_int, truD, fShl_int, fPow_int, fAbs_int, fEq_bl, fIsi_tt, fIsi_it, fIsi_ii, fIsi_ib, fIsi_bt, fIsi_bi, fIsi_bb, fIsi_tb, fIsi_ti, last_concat, List.dropLast_concat, look_loc, lookL_loc, fLen_loc, ixN_0, ixN_1, ixN_2, ixN_3, fSetL_loc, fAppend_loc, fPop_loc, fExtend_loc, mgSub, mMt, alloc_t, mFrz, mSl, mRev, mNone, mSome, mLst, fNeg, fSet_tup, fSet_lst, fInS_int, fSortS_set, fAll_lst, fAdd_tup, mNotT, mCV, mBreak, mCont, z0, z1, z2, z3, z4, z5, z6, z7, z8, z9, List.lookup_cons,
  b_some, b_none, m_some, Option.join_some, List.getElem?_cons_zero, List.getElem?_cons_succ, List.set_cons_zero, List.set_cons_succ, List.map_cons, List.map_nil, List.length_cons, List.length_nil, List.replicate, List.cons_append, List.nil_append, Nat.reduceAdd, Nat.reduceSub, if_true, if_false, reduceIte, reduceCtorEq, ite_bind, Bool.false_eq_true, decide_eq_true_eq, List.length_map, decide_true, decide_false, Bool.not_true, Bool.not_false])
local macro_rules | `(tactic| walk_at "nx") => `(tactic| (refine (mSeq_nx (by (walk_at "ev"; rfl))).trans ?_))
theorem common_mul {x y : Int} (hx : 0 < x) (hy : 0 < y) (hx9 : x < 1000) (hy9 : y < 1000) (st : Sto) : ∃ L : Int, 0 < L ∧ L ≤ x * y ∧ x ∣ L ∧ y ∣ L ∧ m__law_common [.int x, .int y] st = some (.int L, st) := by
  let E : Int → En := fun f => [some (.int x), some (.int y), some (.int f)]
  have a0 : (mAsg (mV 0) (mgName 2)) [some (.int x), some (.int y), none] st = some (.nx (E x), st) := rfl
  let fi : En → Int := fun en => match en[2]? with
    | some (some (D.int f)) => f
    | _ => 0
  obtain ⟨o, s1, a1, k⟩ := wh_inv (c := (mTB (mOp fNe (mOp fMod (mV 2) (mV 1)) (mC (.int 0))))) (b := (mAsg (mOp (fAdd false) (mV 2) (mV 0)) (mgName 2))) (en := E x) (st := st)
    (fun en s => s = st ∧ ∃ k : Nat, 0 < k ∧ (k : Int) ≤ y ∧ en = E (x * k)) (fun en _ => (x * y - fi en).toNat)
    (fun en s => s = st ∧ ∃ k : Nat, 0 < k ∧ (k : Int) ≤ y ∧ en = E (x * k) ∧ x * k % y = 0) (fun _ _ => False) ⟨rfl, 1, by decide, by omega, by rw [show x * ((1 : Nat) : Int) = x by simp]⟩ (by
      rintro en s ⟨rfl, k, k0, k1, rfl⟩
      refine ⟨!decide (x * (k : Int) % y = 0), s, ?_, fun h => ⟨rfl, k, k0, k1, rfl, ?_⟩, fun h => ⟨.nx (E (x * ((k + 1 : Nat) : Int))), s, ?_, ⟨rfl, k + 1, by omega, ?_, rfl⟩, ?_⟩⟩
      · dsimp only [E]; walk_at "ev"
        rw [if_pos (cMod_ok hy)]
      · refine Classical.byContradiction fun c => ?_
        rw [decide_eq_false c] at h
        cases h
      · dsimp only [E]; walk_at "ev"
        rw [show x * ((k + 1 : Nat) : Int) = x * (k : Int) + x by rw [Int.natCast_add, Int.mul_add]; simp]
      · have : (k : Int) ≠ y := fun e => by
          rw [e, decide_eq_true (Int.mul_emod_left x y)] at h
          cases h
        omega
      · have kl : (k : Int) ≠ y := fun e => by
          rw [e, decide_eq_true (Int.mul_emod_left x y)] at h
          cases h
        have e1 : x * ((k + 1 : Nat) : Int) = x * (k : Int) + x := by rw [Int.natCast_add, Int.mul_add]; simp
        have e2 : x * ((k + 1 : Nat) : Int) ≤ x * y := Int.mul_le_mul_of_nonneg_left (by omega) (Int.le_of_lt hx)
        show (x * y - x * ((k + 1 : Nat) : Int)).toNat < (x * y - x * (k : Int)).toNat
        omega)
  cases o with
  | nx e =>
    obtain ⟨rfl, k, k0, k1, rfl, k2⟩ := k
    refine ⟨x * k, Int.mul_pos hx (by omega), Int.mul_le_mul_of_nonneg_left k1 (Int.le_of_lt hx), ⟨k, rfl⟩, Int.dvd_of_emod_eq_zero k2, mDef_rt rfl ((mSeq_nx a0).trans ((mSeq_nx a1).trans ?_))⟩
    dsimp only [E]; walk_at "ev"
  | _ => exact k.elim
theorem fMul_rep {d : D} {k : Int} (h : k < 1000000) (h0 : 0 ≤ k) {st : Sto} : fMul false (.lst [d]) (.int k) st = some (.lst (List.replicate k.toNat d), st) := by
  show (if small k = true ∧ 1 * k.toNat ≤ PySem.sizeLine then some (alloc false (List.replicate k.toNat [d]).flatten st) else none) = _
  rw [if_pos ⟨small_ok (by omega), szle (by omega)⟩]
  have e : ∀ n : Nat, (List.replicate n [d]).flatten = List.replicate n d := by
    intro n
    induction n with
    | zero => rfl
    | succ n ih => rw [List.replicate_succ, List.flatten_cons, ih, List.replicate_succ]; rfl
  rw [e]
  rfl
theorem bl_false (n : Nat) : List.replicate n (D.bl false) = bl (fun _ => false) 0 n := by
  unfold bl rngI
  rw [List.map_map, List.map_map]
  refine List.ext_getElem (by simp) fun i h1 h2 => by simp
theorem list_eq {a : Rs} (w : a.Wf) {far : Int} (ht9 : a.turn < 1000) (hf : a.first ≤ far) (hf9 : far < 100000) (st : Sto) : m__law_list [.tup (a.few.map .int), .int a.first, .int a.turn, .tup (a.rests.map .int), .int far] st = some (.lst (bl a.has 0 far.toNat), st) := by
  have ht := w.turn
  have hf0 := w.first
  have hfl := fewlen w
  let E : Option D → Option D → Option D → En := fun fo nu pi => [some (.tup (a.few.map .int)), some (.int a.first), some (.int a.turn), some (.tup (a.rests.map .int)), some (.int far), fo, nu, pi, none]
  let S : (Int → Bool) → Sto := fun T => st ++ [.lst (bl T 0 far.toNat)]
  have a0 : ms__law_list_0 (E none none none) st = some (.nx (E (some (.loc st.length)) none none), S fun _ => false) := by
    unfold ms__law_list_0
    dsimp only [E]; walk_at "ev"
    rw [fMul_rep (by omega) (by omega)]
    walk_at "ev"
    rw [fMul_rep (by omega) (by omega)]
    walk_at "ev"
    show ((if _ ≤ PySem.sizeLine then some (alloc true _ st) else none).bind _) = _
    rw [if_pos (szle (by rw [List.length_replicate, List.length_replicate]; omega)), List.replicate_append_replicate, show a.first.toNat + (far - a.first).toNat = far.toNat by omega, bl_false]
    rfl
  obtain ⟨o, s1, a1, k⟩ := for_inv (mi := miSeq (mV 0)) (T := .name 6) (b := mAsg (mC (.bl true)) (mgSub (mV 5) (mV 6) fSetL)) (en := E (some (.loc st.length)) none none) (st := S fun _ => false) (st1 := S fun _ => false) (s := ⟨a.few.map .int, none⟩) (by dsimp only [E]; walk_at "ev")
    (fun i en s => ∃ nu, en = E (some (.loc st.length)) nu none ∧ s = S fun n => decide (n ∈ a.few.take i)) (fun _ _ => False) (fun _ _ => False) (fun _ _ _ _ => ok_none) ⟨none, rfl, by
      show st ++ [.lst (bl _ 0 far.toNat)] = st ++ [.lst (bl _ 0 far.toNat)]
      congr 3⟩ (by
      rintro i d en s hd ⟨nu, rfl, rfl⟩
      obtain ⟨m, hm, rfl⟩ := ints_get hd
      have hb := w.fewIn m (List.mem_of_getElem? hm)
      refine ⟨E (some (.loc st.length)) (some (.int m)) none, .nx (E (some (.loc st.length)) (some (.int m)) none), _, rfl, ?_, _, rfl, rfl⟩
      dsimp only [E]
      unfold mAsg mC mgSub
      rw [b_some]
      walk_at "ev"
      dsimp only [S]
      rw [top_get]
      dsimp only
      rw [bl_len, ixN_nat hb.1 (by omega), m_some, bl_set hb.1 (by omega), top_set]
      rw [show (fun k => decide (k ∈ a.few.take i) || decide (k = m)) = fun k => decide (k ∈ a.few.take (i + 1)) by
        funext k
        rw [Bool.eq_iff_iff, Bool.or_eq_true, decide_eq_true_eq, decide_eq_true_eq, decide_eq_true_eq, List.take_add_one, hm, List.mem_append]
        simp]
      rfl)
  cases o with
  | nx e =>
    rcases k with ⟨nu, rfl, rfl⟩ | k
    · let T0 : Int → Bool := fun n => decide (n ∈ a.few)
      have eT : (fun n => decide (n ∈ a.few.take (⟨a.few.map D.int, none⟩ : Src).ds.length)) = T0 := by
        funext n
        show decide (n ∈ a.few.take (a.few.map D.int).length) = decide (n ∈ a.few)
        rw [List.length_map, List.take_length]
      rw [eT] at a1
      let P : Int → Bool := a.P
      have a2 : ms__law_list_4 (E (some (.loc st.length)) nu none) (S T0) = some (.nx (E (some (.loc st.length)) nu (some (.lst (bl P a.first a.turn.toNat)))), S T0) := by
        have lc : (mLc false (miRng1 (mCons (mV 2) mNil)) (.name 8) mYes (mOp (fIn false) (mOp fMod (mCb fInt (mCons (mOp (fAdd false) (mV 1) (mV 8)) mNil)) (mV 2)) (mV 3)) [8]) (E (some (.loc st.length)) nu none) (S T0) = some (.lst (bl P a.first a.turn.toNat), S T0) := by
          · rw [lc_ints (ns := rngI 0 a.turn.toNat) (st1 := S T0) (by
              dsimp only [E]; walk_at "ev"
              rw [if_pos (small_ok (by omega)), rngD_eq]) (fun _ => true) (fun k => .bl (P (a.first + k))) (by rw [length_rngI]; exact szlt (by omega)) fun x _ => ⟨(E (some (.loc st.length)) nu none).set 8 (some (.int x)), rfl, rfl, fun _ => by
              dsimp only [E]; walk_at "ev"
              rw [cMod_ok ht]
              walk_at "ev"
              rfl⟩, List.filter_eq_self.mpr (fun _ _ => rfl)]
            unfold bl
            rw [rngI_shift a.first, List.map_map, List.map_map]
            rfl
        have key : ∀ q : ME, ∀ d s, q (E (some (.loc st.length)) nu none) (S T0) = some (d, s) → (mAsg q (mgName 7)) (E (some (.loc st.length)) nu none) (S T0) = some (.nx (E (some (.loc st.length)) nu (some d)), s) := by
          intro q d s hq
          dsimp only [E] at hq ⊢
          walk_at "ev"
          rw [hq]
          walk_at "ev"
        exact key _ _ _ lc
      let k : Nat := ((far - a.first) / a.turn + 1).toNat
      have kdiv := Int.mul_ediv_add_emod (far - a.first) a.turn
      have kmod := Int.emod_lt_of_pos (far - a.first) ht
      have kq : 0 ≤ (far - a.first) / a.turn := Int.ediv_nonneg (by omega) (Int.le_of_lt ht)
      have kq9 : (far - a.first) / a.turn ≤ far - a.first := Int.ediv_le_self _ (by omega)
      have hk : (far - a.first).toNat ≤ k * a.turn.toNat := by
        have e : ((k * a.turn.toNat : Nat) : Int) = a.turn * ((far - a.first) / a.turn) + a.turn := by
          rw [Int.natCast_mul, show ((k : Nat) : Int) = (far - a.first) / a.turn + 1 by show (((far - a.first) / a.turn + 1).toNat : Int) = _; omega, show ((a.turn.toNat : Nat) : Int) = a.turn by omega, Int.add_mul, Int.one_mul, Int.mul_comm]
        omega
      have hk9 : a.turn.toNat * k ≤ PySem.sizeLine := by
        have h1 : a.turn.toNat * k ≤ 1000 * k := Nat.mul_le_mul_right _ (by omega)
        have h2 : a.turn * ((far - a.first) / a.turn) ≤ far - a.first := by
          have := Int.emod_nonneg (far - a.first) (show a.turn ≠ 0 by omega)
          omega
        have h3 : ((a.turn.toNat * k : Nat) : Int) = a.turn * ((far - a.first) / a.turn) + a.turn := by
          rw [Int.natCast_mul, show ((k : Nat) : Int) = (far - a.first) / a.turn + 1 by show (((far - a.first) / a.turn + 1).toNat : Int) = _; omega, show ((a.turn.toNat : Nat) : Int) = a.turn by omega, Int.mul_add, Int.mul_one]
        exact szle (by omega)
      have a3 : ms__law_list_6 (E (some (.loc st.length)) nu (some (.lst (bl P a.first a.turn.toNat)))) (S T0) = some (.nx (E (some (.loc st.length)) nu (some (.lst (bl P a.first a.turn.toNat)))), S a.has) := by
        unfold ms__law_list_6
        dsimp only [E]; unfold mAsg mgTail; walk_at "ev"
        rw [if_pos (cDiv_ok ht (by omega))]
        walk_at "ev"
        rw [show fMul false (.lst (bl P a.first a.turn.toNat)) (.int ((far - a.first) / a.turn + 1)) (S T0) = some (.lst (bl P a.first (k * a.turn.toNat)), S T0) by
          show (if small ((far - a.first) / a.turn + 1) = true ∧ (bl P a.first a.turn.toNat).length * k ≤ PySem.sizeLine then some (alloc false (List.replicate k (bl P a.first a.turn.toNat)).flatten (S T0)) else none) = _
          rw [if_pos ⟨small_ok (by omega), by rw [bl_len]; exact hk9⟩, bl_rep ht fun n _ => a.perP n]
          rfl]
        walk_at "ev"
        simp only [fSl, look_lst, m_some, b_some, alloc_f]
        rw [cutD_take _ _ (by omega), bl_take hk]
        show ((fSetT (.loc st.length) (some a.first) (.lst (bl P a.first (far - a.first).toNat)) (S T0)).map _).bind _ = _
        unfold fSetT
        dsimp only [S]
        rw [top_get]
        dsimp only
        rw [if_pos ⟨hf0, by rw [bl_len]; omega, by rw [bl_len, bl_len]; exact szle (by omega)⟩, bl_take (by omega), top_set]
        have e : bl T0 0 a.first.toNat ++ bl P a.first (far - a.first).toNat = bl a.has 0 far.toNat := by
          rw [bl_congr (T := T0) (S := a.has) fun j h1 h2 => (Rs.has_lo (by omega)).symm, bl_congr (T := P) (S := a.has) fun j h1 h2 => (Rs.hasP h1).symm]
          have z := bl_app a.has 0 a.first.toNat (far - a.first).toNat
          rw [show (0 : Int) + (a.first.toNat : Nat) = a.first by omega, show a.first.toNat + (far - a.first).toNat = far.toNat by omega] at z
          exact z
        rw [e]
        rfl
      have a4 : (mRet (mFrz (mV 5))) (E (some (.loc st.length)) nu (some (.lst (bl P a.first a.turn.toNat)))) (S a.has) = some (.rt (.lst (bl a.has 0 far.toNat)), st ++ [.dead]) := by
        dsimp only [E, S]; walk_at "ev"
        rw [top_get]
        dsimp only
        rw [top_set]
        rfl
      exact mDef_new rfl ((mSeq_nx a0).trans ((mSeq_nx a1).trans ((mSeq_nx a2).trans ((mSeq_nx a3).trans a4)))) (settle_top _ _ _ (by show clos st.length _ = true; exact clos_bl _ _ _ _))
    · exact k.elim
  | _ => exact k.elim
end K02


namespace K02
open PySem PySem.Spec PyProof.Rows L2 My
local macro_rules | `(tactic| walk_at "ev") => `(tactic| try simp only [mDef, mSeq, mAsg, mV_eq, mC, mOp, mUn, mCb, mNil, mCons, mTup, mIfS, mTB, mT, mRet, mNext, mgTup, mgCons, mgNil, mgT, mgName, setTg, setTgs, mIf, mAnd, mOr, mNot, mAndV, mOrV, mNotV, fB, fLt_int, fLe, fGt, fGe, fAdd_int, fSub_int, fMod_int, fDiv_int, fMul_int, fNeg_int, fIn_tup, fIn_lst, settle_same, fIx, look_tup, look_d, look_lst, look_fro, lookL_lst, atI_0, atI_1, atI_2, atI_3, fLen_tup, fLen_lst, miSeq, srcOf, mPar, mAug, mRetN, fTuple_lst, fTuple_tup, alloc_f, fEq_int, fMaxL_2, fMinL_2, fSorted_ints, fIsN_int, fIsN_non, fNe_int, mDrop, wipeE, mYes, My.isNon, miRng1, miRng2, fInt_int, truD, fShl_int, fPow_int, fAbs_int, fEq_bl, fIsi_tt, fIsi_it, fIsi_ii, fIsi_ib, fIsi_bt, fIsi_bi, fIsi_bb, fIsi_tb, fIsi_ti, last_concat, List.dropLast_concat, look_loc, lookL_loc, fLen_loc, ixN_0, ixN_1, ixN_2, ixN_3, fSetL_loc, fAppend_loc, fPop_loc, fExtend_loc, mgSub, mMt, alloc_t, mFrz, mSl, mRev, mNone, mSome, mLst, fNeg, fSet_tup, fSet_lst, fInS_int, fSortS_set, fAll_lst, fAdd_tup, mNotT, mCV, mBreak, mCont, z0, z1, z2, z3, z4, z5, z6, z7, z8, z9, List.lookup_cons,
  b_some, b_none, m_some, Option.join_some, List.getElem?_cons_zero, List.getElem?_cons_succ, List.set_cons_zero, List.set_cons_succ, List.map_cons, List.map_nil, List.length_cons, List.length_nil, List.replicate, List.cons_append, List.nil_append, Nat.reduceAdd, Nat.reduceSub, if_true, if_false, reduceIte, reduceCtorEq, ite_bind, Bool.false_eq_true, decide_eq_true_eq, List.length_map, decide_true, decide_false, Bool.not_true, Bool.not_false])
local macro_rules | `(tactic| walk_at "nx") => `(tactic| (refine (mSeq_nx (by (walk_at "ev"; rfl))).trans ?_))
structure Drum (st : Sto) : Prop where
  ex : ∃ (gs : List Int) (h c : Int) (rest : Sto), st = .lst (gs.map .int) :: .lst [.loc 0, .int h, .int c] :: rest
theorem cN {x : Int} : cMod x 1073741689 = true := cMod_ok (by decide)
theorem atI_last (gs : List Int) (x : Int) : atI ((gs ++ [x]).map D.int) (-1) = some (.int x) := by
  rw [atI_map, atI_neg1 (by simp)]
  simp
theorem ixN_last (n : Nat) : ixN (n + 1) (-1) = some n := by
  unfold ixN
  rw [if_neg (by decide), if_pos (by omega)]
  congr 1
  omega
theorem beat_eq {st : Sto} (p : Drum st) {many : Int} (hm : 0 < many) (hm2 : many < 10 ^ 18) : ∃ (v : Int) (st' : Sto), m__law_beat [.loc 1, .int many] st = some (.int v, st') ∧ 0 ≤ v ∧ v < many ∧ Drum st' ∧ st'.length = st.length := by
  obtain ⟨gs, h, c, rest, rfl⟩ := p.ex
  let E : Option D → En := fun s => [some (.loc 1), some (.int many), s]
  let S : List Int → Int → Int → Sto := fun gs h c => .lst (gs.map .int) :: .lst [.loc 0, .int h, .int c] :: rest
  let li : Sto → Nat := fun s => match s with
    | .lst es :: _ => es.length
    | _ => 0
  obtain ⟨o, s1, a0, k⟩ := wh_inv (c := (mAnd (mTB (mOp fGt (mCb fLen (mCons (mOp fIx (mV 0) (mC (.int 0))) mNil)) (mC (.int 0)))) (mTB (mOp fEq (mOp fIx (mOp fIx (mV 0) (mC (.int 0))) (mUn fNeg (mC (.int 1)))) (mC (.int 0)))))) (b := (mDrop (mMt fPop (mOp fIx (mV 0) (mC (.int 0))) mNil))) (en := E none) (st := S gs h c)
    (fun en s => en = E none ∧ ∃ gs, s = S gs h c) (fun _ s => li s) (fun en s => en = E none ∧ ∃ gs, s = S gs h c) (fun _ _ => False) ⟨rfl, gs, rfl⟩ (by
      rintro en s ⟨rfl, gs, rfl⟩
      rcases List.eq_nil_or_concat gs with rfl | ⟨fs, x, rfl⟩
      · refine ⟨false, S [] h c, ?_, fun _ => ⟨rfl, [], rfl⟩, (fun h => by cases h)⟩
        dsimp only [E, S]; walk_at "ev"
        rfl
      · rw [List.concat_eq_append]
        refine ⟨decide (x = 0), S (fs ++ [x]) h c, ?_, fun _ => ⟨rfl, _, rfl⟩, fun _ => ⟨.nx (E none), S fs h c, ?_, ⟨rfl, fs, rfl⟩, ?_⟩⟩
        · dsimp only [E, S]; walk_at "ev"
          rw [if_pos (by simp), atI_last]
          walk_at "ev"
        · dsimp only [E, S]; walk_at "ev"
          rw [List.map_append]
          walk_at "ev"
          rw [show (List.map D.int fs ++ [D.int x])[(fs ++ [x]).length - 1]? = some (.int x) by simp]
          rfl
        · show (fs.map D.int).length < ((fs ++ [x]).map D.int).length
          simp)
  cases o with
  | nx e =>
    obtain ⟨rfl, gs, rfl⟩ := k
    have a0 : ms__law_beat_2 (E none) _ = some (.nx (E none), S gs h c) := a0
    rcases List.eq_nil_or_concat gs with rfl | ⟨fs, x, rfl⟩
    · have t : ms__law_beat_4 (E none) (S [] h c) = some (.nx (E none), S [] h c) := by
        unfold ms__law_beat_4
        dsimp only [E, S]; walk_at "ev"
        rfl
      have a1 : (mAsg (mOp (fAdd false) (mOp fIx (mV 0) (mC (.int 2))) (mC (.int 1))) (mgSub (mV 0) (mC (.int 2)) fSetL)) (E none) (S [] h c) = some (.nx (E none), S [] h (c + 1)) := by
        dsimp only [E, S]; walk_at "ev"
      let h2 : Int := (h * 27011 + (c + 1) * 5741 + 2) % 1073741689
      have a2 : ms__law_beat_6 (E none) (S [] h (c + 1)) = some (.nx (E none), S [] h2 (c + 1)) := by
        unfold ms__law_beat_6
        dsimp only [E, S, h2]; walk_at "ev"
        rw [cMul_r (by omega)]
        walk_at "ev"
        rw [cMul_r (by omega)]
        walk_at "ev"
        rw [cN]
        walk_at "ev"
      refine ⟨h2 / 67 % many, S [] h2 (c + 1), mDef_rt rfl ((mSeq_nx a0).trans ((mSeq_nx t).trans ((mSeq_nx a1).trans ((mSeq_nx a2).trans ?_)))), Int.emod_nonneg _ (by omega), Int.emod_lt_of_pos _ hm, ⟨[], h2, c + 1, rest, rfl⟩, rfl⟩
      dsimp only [E, S]; walk_at "ev"
      rw [if_pos (cDiv_ok (by omega) (by omega))]
      walk_at "ev"
      rw [if_pos (cMod_ok hm)]
    · rw [List.concat_eq_append] at a0
      have t : (mTB (mOp fGt (mCb fLen (mCons (mOp fIx (mV 0) (mC (.int 0))) mNil)) (mC (.int 0)))) (E none) (S (fs ++ [x]) h c) = some (true, S (fs ++ [x]) h c) := by
        dsimp only [E, S]; walk_at "ev"
        rw [decide_eq_true (by simp)]
      have a1 : ms__law_beat_0 (E none) (S (fs ++ [x]) h c) = some (.nx (E (some (.int x))), S (fs ++ [x]) h c) := by
        unfold ms__law_beat_0
        dsimp only [E, S]; walk_at "ev"
        rw [atI_last]
        walk_at "ev"
      have a2 : (mAsg (mOp fDiv (mV 2) (mV 1)) (mgSub (mOp fIx (mV 0) (mC (.int 0))) (mUn fNeg (mC (.int 1))) fSetL)) (E (some (.int x))) (S (fs ++ [x]) h c) = some (.nx (E (some (.int x))), S (fs ++ [x / many]) h c) := by
        dsimp only [E, S]; walk_at "ev"
        rw [if_pos (cDiv_ok hm hm2)]
        walk_at "ev"
        have e1 : ((fs ++ [x]).map D.int).length = fs.length + 1 := by simp
        have e2 : ((fs ++ [x]).map D.int).set fs.length (.int (x / many)) = (fs ++ [x / many]).map D.int := by
          rw [List.map_append, List.map_append, List.set_append_right _ _ (by simp)]
          simp
        rw [show (fs ++ [x]).length = fs.length + 1 by simp, ixN_last, m_some, e2]
        walk_at "ev"
      refine ⟨x % many, S (fs ++ [x / many]) h c, mDef_rt rfl ((mSeq_nx a0).trans (mSeq_rt ((mIfS_t t).trans ((mSeq_nx a1).trans ((mSeq_nx a2).trans ?_))))), Int.emod_nonneg _ (by omega), Int.emod_lt_of_pos _ hm, ⟨_, h, c, rest, rfl⟩, rfl⟩
      dsimp only [E, S]; walk_at "ev"
      rw [if_pos (cMod_ok hm)]
  | _ => exact k.elim
theorem drum_eq (ns : List Int) : ∃ st', m__law_drum [.fro (ns.map .int)] [] = some (.loc 1, st') ∧ Drum st' := by
  let E : Option D → Int → Option D → En := fun c r s => [some (.fro (ns.map .int)), c, some (.loc 0), some (.int r), s]
  obtain ⟨o, st', h, k⟩ := for_inv (mi := miSeq (mSl false (mV 0) mNone (mSome (mC (.int 56))))) (T := .name 1) (b := mSeq (ms__law_drum_0) (mSeq (ms__law_drum_2) (mIfS (mTB (mOp fGe (mV 4) (mOp fPow (mC (.int 10)) (mC (.int 18))))) (mDrop (mMt fInsert (mV 2) (mCons (mC (.int 0)) (mCons (mV 4) mNil)))) mNext))) (en := E none 24203 none) (st := [.lst []]) (st1 := [.lst []]) (s := ⟨(ns.take 56).map D.int, none⟩) (by
      dsimp only [E]; walk_at "ev"
      simp only [fSl, look_fro, m_some, cut_ints ns 56 (by decide), alloc_f]
      walk_at "ev"
      rfl)
    (fun i en s => ∃ (deep : List Int) (r : Int) (c z : Option D), deep.length ≤ i ∧ en = E c r z ∧ s = [.lst (deep.map .int)]) (fun _ _ => False) (fun _ _ => False) (fun _ _ _ _ => ok_none) ⟨[], 24203, none, none, Nat.le_refl _, rfl, rfl⟩ (by
      rintro i d en s hd ⟨deep, r, c, z, hl, rfl, rfl⟩
      obtain ⟨x, hx, rfl⟩ := ints_get hd
      have hi : i < 56 := by
        have := (List.getElem?_eq_some_iff.mp hx).1
        rw [List.length_take] at this
        omega
      obtain ⟨y, h0⟩ : ∃ y : Int, ms__law_drum_0 (E (some (.int x)) r z) [.lst (deep.map .int)] = some (.nx (E (some (.int x)) r (some (.int y))), [.lst (deep.map .int)]) := by
        refine ⟨(if x < 0 then -x else x) % (1 * 2 ^ (1600 : Int).toNat), ?_⟩
        unfold ms__law_drum_0
        dsimp only [E]; walk_at "ev"
        rw [show cPow 1 1600 = true by decide, cMod_ok (two_pos _)]
        rfl
      obtain ⟨r', h1⟩ : ∃ r' : Int, ms__law_drum_2 (E (some (.int x)) r (some (.int y))) [.lst (deep.map .int)] = some (.nx (E (some (.int x)) r' (some (.int y))), [.lst (deep.map .int)]) := by
        refine ⟨(r * 33301 + y % 1000081 * 3 + 41) % 1073741689, ?_⟩
        unfold ms__law_drum_2
        dsimp only [E]; walk_at "ev"
        rw [cMul_r (by omega), cMod_ok (show (0 : Int) < 1000081 by decide), cMul_r (by omega), cN]
        rfl
      by_cases hb : (10 : Int) ^ (18 : Int).toNat ≤ y
      · refine ⟨E (some (.int x)) r z, .nx (E (some (.int x)) r' (some (.int y))), [.lst ((y :: deep).map .int)], rfl, (mSeq_nx h0).trans ((mSeq_nx h1).trans ?_), y :: deep, r', _, _, by rw [List.length_cons]; omega, rfl, rfl⟩
        dsimp only [E]; walk_at "ev"
        rw [show cPow 10 18 = true by decide]
        walk_at "ev"
        rw [if_pos hb]
        unfold fInsert
        dsimp only [List.getElem?_cons_zero]
        rw [if_pos ⟨by rw [List.length_map]; exact szlt (by omega), by decide, by decide⟩]
        rfl
      · refine ⟨E (some (.int x)) r z, .nx (E (some (.int x)) r' (some (.int y))), [.lst (deep.map .int)], rfl, (mSeq_nx h0).trans ((mSeq_nx h1).trans ?_), deep, r', _, _, by omega, rfl, rfl⟩
        dsimp only [E]; walk_at "ev"
        rw [show cPow 10 18 = true by decide]
        walk_at "ev"
        rw [if_neg hb])
  cases o with
  | nx e =>
    rcases k with ⟨deep, r, c, z, hl, rfl, rfl⟩ | k
    · have a1 : (mPar 2 3 (mCons (mLst true mNil) (mCons (mC (.int 24203)) mNil))) [some (.fro (ns.map .int)), none, none, none, none] [] = some (.nx (E none 24203 none), [.lst []]) := by
        walk_at "ev"
        rfl
      have a3 : (mRet (mLst true (mCons (mV 2) (mCons (mV 3) (mCons (mC (.int 0)) mNil))))) (E c r z) [.lst (deep.map .int)] = some (.rt (.loc 1), [.lst (deep.map .int), .lst [.loc 0, .int r, .int 0]]) := by
        dsimp only [E]; walk_at "ev"
      exact ⟨_, mDef_new rfl ((mSeq_nx a1).trans ((mSeq_nx h).trans a3)) (settle_new (by simp) (by decide)), ⟨deep, r, 0, [], rfl⟩⟩
    · exact k.elim
  | _ => exact k.elim
/-- what same compares -/
inductive PI : Nat → D → Prop where
  | int (n : Nat) (i : Int) : PI n (.int i)
  | tup (n : Nat) (ds : List D) (hl : ds.length < 1000000) (h : ∀ d ∈ ds, PI n d) : PI (n + 1) (.tup ds)
theorem pi_ints {k : Nat} (ns : List Int) (h : ns.length < 1000000) : PI (k + 1) (.tup (ns.map .int)) := .tup k _ (by simpa using h) fun d hd => by
  obtain ⟨i, _, rfl⟩ := List.mem_map.mp hd
  exact .int k i
theorem pi_rs {a : Rs} (w : a.Wf) (hf : a.first < 1000000) (ht : a.turn < 1000000) : PI 2 a.d := by
  have := fewlen w
  have := lens w
  have := w.turn
  have := w.first
  refine .tup 1 _ (by show 4 < 1000000; decide) fun d hd => ?_
  simp only [List.mem_cons, List.mem_nil_iff, or_false] at hd
  rcases hd with rfl | rfl | rfl | rfl
  · exact pi_ints _ (by omega)
  · exact .int 1 _
  · exact .int 1 _
  · exact pi_ints _ (by omega)
theorem same_refl : ∀ (n : Nat) (d : D) (st : Sto), PI n d → m__law_same (n + 1) [d, d] st = some (.bl true, st)
  | n, .int i, st, _ => by
    unfold m__law_same mb__law_same
    refine mDef_rt rfl ((mSeq_nx (en' := [some (.int i), some (.int i), none]) (st' := st) ?_).trans ?_)
    · unfold ms__law_same_6
      walk_at "ev"
    · unfold ms__law_same_8
      walk_at "ev"
  | n + 1, .tup ds, st, h => by
    cases h with
    | tup _ _ hl h =>
    have ih : ∀ d ∈ ds, m__law_same (n + 1) [d, d] st = some (.bl true, st) := fun d hd => same_refl n d st (h d hd)
    let E : Option D → En := fun k => [some (.tup ds), some (.tup ds), k]
    have a0 : ms__law_same_2 (m__law_same (n + 1)) (E none) st = some (.nx (E none), st) := by
      unfold ms__law_same_2
      dsimp only [E]; walk_at "ev"
    obtain ⟨o, s1, a1, k⟩ := for_inv (mi := miRng1 (mCons (mCb fLen (mCons (mV 1) mNil)) mNil)) (T := .name 2) (b := ms__law_same_0 (m__law_same (n + 1))) (en := E none) (st := st) (st1 := st) (s := ⟨rngD 0 ds.length, none⟩) (by
        dsimp only [E]; walk_at "ev"
        rw [if_pos (small_ok (by omega)), show ((ds.length : Int)).toNat = ds.length by omega])
      (fun _ en s => s = st ∧ ∃ k, en = E k) (fun _ _ => False) (fun _ _ => False) (fun _ _ _ _ => ok_none) ⟨rfl, _, rfl⟩ (by
        rintro i d en s hd ⟨rfl, k, rfl⟩
        obtain ⟨rfl, hi⟩ := rng_get hd
        obtain ⟨x, hx, hm⟩ := atI_mem (xs := ds) (i := 0 + (i : Int)) (by omega) (by omega)
        refine ⟨E (some (.int (0 + i))), .nx (E (some (.int (0 + i)))), s, rfl, ?_, rfl, _, rfl⟩
        unfold ms__law_same_0
        dsimp only [E]; walk_at "ev"
        rw [hx]
        walk_at "ev"
        rw [ih x hm]
        rfl)
    cases o with
    | nx e =>
      rcases k with ⟨rfl, k, rfl⟩ | k
      · have a1 : ms__law_same_4 (m__law_same (n + 1)) (E none) s1 = some (.nx (E k), s1) := a1
        unfold m__law_same mb__law_same
        refine mDef_rt rfl (mSeq_rt ((mIfS_t (st1 := s1) (by walk_at "ev")).trans ((mSeq_nx a0).trans ((mSeq_nx a1).trans ?_))))
        rfl
      · exact k.elim
    | _ => exact k.elim
  | 0, .tup ds, st, h => by cases h
theorem same_eq {d : D} (h : PI 3 d) (st : Sto) : m__law_same 4 [d, d] st = some (.bl true, st) := same_refl 3 d st h
end K02


namespace K02
open PySem PySem.Spec PyProof.Rows L2 My
local macro_rules | `(tactic| walk_at "ev") => `(tactic| try simp only [mDef, mSeq, mAsg, mV_eq, mC, mOp, mUn, mCb, mNil, mCons, mTup, mIfS, mTB, mT, mRet, mNext, mgTup, mgCons, mgNil, mgT, mgName, setTg, setTgs, mIf, mAnd, mOr, mNot, mAndV, mOrV, mNotV, fB, fLt_int, fLe, fGt, fGe, fAdd_int, fSub_int, fMod_int, fDiv_int, fMul_int, fNeg_int, fIn_tup, fIn_lst, settle_same, fIx, look_tup, look_d, look_lst, look_fro, lookL_lst, atI_0, atI_1, atI_2, atI_3, fLen_tup, fLen_lst, miSeq, srcOf, mPar, mAug, mRetN, fTuple_lst, fTuple_tup, alloc_f, fEq_int, fMaxL_2, fMinL_2, fSorted_ints, fIsN_int, fIsN_non, fNe_int, mDrop, wipeE, mYes, My.isNon, miRng1, miRng2, fInt_int, truD, fShl_int, fPow_int, fAbs_int, fEq_bl, fIsi_tt, fIsi_it, fIsi_ii, fIsi_ib, fIsi_bt, fIsi_bi, fIsi_bb, fIsi_tb, fIsi_ti, last_concat, List.dropLast_concat, look_loc, lookL_loc, fLen_loc, ixN_0, ixN_1, ixN_2, ixN_3, fSetL_loc, fAppend_loc, fPop_loc, fExtend_loc, mgSub, mMt, alloc_t, mFrz, mSl, mRev, mNone, mSome, mLst, fNeg, fSet_tup, fSet_lst, fInS_int, fSortS_set, fAll_lst, fAdd_tup, mNotT, mCV, mBreak, mCont, z0, z1, z2, z3, z4, z5, z6, z7, z8, z9, List.lookup_cons,
  b_some, b_none, m_some, Option.join_some, List.getElem?_cons_zero, List.getElem?_cons_succ, List.set_cons_zero, List.set_cons_succ, List.map_cons, List.map_nil, List.length_cons, List.length_nil, List.replicate, List.cons_append, List.nil_append, Nat.reduceAdd, Nat.reduceSub, if_true, if_false, reduceIte, reduceCtorEq, ite_bind, Bool.false_eq_true, decide_eq_true_eq, List.length_map, decide_true, decide_false, Bool.not_true, Bool.not_false])
local macro_rules | `(tactic| walk_at "nx") => `(tactic| (refine (mSeq_nx (by (walk_at "ev"; rfl))).trans ?_))
theorem atI_ints (ns : List Int) (P : Int → Prop) (hP : ∀ n ∈ ns, P n) {i : Int} (h0 : 0 ≤ i) (h : i < ns.length) : ∃ t, atI (ns.map D.int) i = some (.int t) ∧ P t := by
  obtain ⟨x, h1, h2⟩ := atI_mem (xs := ns) h0 h
  exact ⟨x, by rw [atI_map, h1]; rfl, hP x h2⟩
theorem hasI {a : Rs} {n : Int} : a.has n = true ↔ (n < a.first ∧ n ∈ a.few) ∨ (a.first ≤ n ∧ n % a.turn ∈ a.rests) := by
  by_cases c : n < a.first
  · rw [Rs.has_lo c, decide_eq_true_eq]
    exact ⟨fun h => .inl ⟨c, h⟩, fun h => h.elim (·.2) fun z => by omega⟩
  · rw [Rs.hasP (by omega)]
    unfold Rs.P
    rw [decide_eq_true_eq]
    exact ⟨fun h => .inr ⟨by omega, h⟩, fun h => h.elim (fun z => absurd z.1 c) (·.2)⟩
theorem canon1 {few : List Int} {first t r : Int} (w : (⟨few, first, t, [r]⟩ : Rs).Wf) (hf : 0 < first → decide (first - 1 ∈ few) ≠ decide ((first - 1) % t ∈ [r])) : (⟨few, first, t, [r]⟩ : Rs).Canon := by
  refine ⟨w, fun d d0 d1 _ hp => ?_, hf⟩
  have d1 : d < t := d1
  have hr := w.restsIn r (List.mem_cons_self ..)
  have hr1 : 0 ≤ r := hr.1
  have hr2 : r < t := hr.2
  have z := hp r
  have z1 : (⟨few, first, t, [r]⟩ : Rs).P r = true := by
    show decide (r % t ∈ [r]) = true
    rw [Int.emod_eq_of_lt hr1 hr2]
    simp
  rw [z1] at z
  have z2 : (r + d) % t ∈ [r] := of_decide_eq_true z
  have z3 : (r + d) % t = r % t := by
    rw [Int.emod_eq_of_lt hr1 hr2]
    simpa using z2
  have := emod_win (f := r) w.turn (m := r + d) (n := r) (by omega) (by show r + d < r + t; omega) (Int.le_refl _) (by show r < r + t; omega) z3
  omega
theorem wf_single {few : List Int} {first t r : Int} (h1 : few.Pairwise (· < ·)) (h2 : ∀ m ∈ few, 0 ≤ m ∧ m < first) (h3 : 0 ≤ first) (h4 : 0 < t) (h5 : 0 ≤ r ∧ r < t) : (⟨few, first, t, [r]⟩ : Rs).Wf :=
  ⟨h1, h2, h3, h4, List.pairwise_singleton _ _, fun x hx => by
    have e : x = r := by simpa using hx
    rw [e]
    exact h5⟩
def oddR : Rs := ⟨[], 0, 2, [1]⟩
def wholeR : Rs := ⟨[], 0, 1, [0]⟩
def oneR (n : Int) : Rs := ⟨[n], n + 1, 1, []⟩
theorem oddC : oddR.Canon := canon1 (wf_single (by decide) (by decide) (by decide) (by decide) (by decide)) (fun h => by cases h)
theorem wholeC : wholeR.Canon := canon1 (wf_single (by decide) (by decide) (by decide) (by decide) (by decide)) (fun h => by cases h)
theorem oneC {n : Int} (h : 0 ≤ n) : (oneR n).Canon := canon_fin (List.pairwise_singleton _ _) (fun m hm => by
  have e : m = n := by simpa using hm
  omega) (by omega) fun _ => by
  rw [show n + 1 - 1 = n by omega]
  exact List.mem_cons_self ..
theorem odd_has {n : Int} (h : 0 ≤ n) : oddR.has n = true ↔ n % 2 = 1 := by
  rw [hasI]
  show (n < 0 ∧ n ∈ ([] : List Int)) ∨ (0 ≤ n ∧ n % 2 ∈ [1]) ↔ _
  simp [h]
theorem one_has {k n : Int} : (oneR k).has n = true ↔ n = k := by
  rw [hasI]
  show (n < k + 1 ∧ n ∈ [k]) ∨ (k + 1 ≤ n ∧ n % 1 ∈ ([] : List Int)) ↔ _
  simp
  omega
theorem whole_has {n : Int} (h : 0 ≤ n) : wholeR.has n = true := by
  rw [hasI]
  refine .inr ⟨h, ?_⟩
  show n % 1 ∈ [0]
  simp
theorem none_has {n : Int} : noneR.has n = true ↔ False := by
  rw [noneR_has]
  simp
theorem bools_bl (bs : List Bool) : bs.map D.bl = bl (fun n => bs.getD n.toNat false) 0 bs.length := by
  refine List.ext_getElem (by rw [List.length_map, bl_len]) fun i h1 h2 => ?_
  rw [List.length_map] at h1
  unfold bl rngI
  simp [List.getD_eq_getElem?_getD, List.getElem?_eq_getElem h1]
theorem draws {te : ME} {mi : MI} {en : En} {st : Sto} {vs : List Nat} {k n : Nat} (hm : mi en st = some (⟨rngD 0 n, none⟩, st)) (p : Drum st) (hn : n < 100000)
    (hte : ∀ (i : Int) s, Drum s → ∃ (b : Bool) (s' : Sto), te ((wipeE en vs).set k (some (.int i))) s = some (.bl b, s') ∧ Drum s' ∧ s'.length = s.length) :
    ∃ (bs : List Bool) (st' : Sto), mLc false mi (.name k) mYes te vs en st = some (.lst (bs.map .bl), st') ∧ bs.length = n ∧ Drum st' ∧ st'.length = st.length := by
  obtain ⟨ys, st', h, bs, rfl, hl, hp, he, _⟩ := lc_inv (mu := false) (T := .name k) (tt := mYes) (te := te) (vs := vs) hm (fun i acc s => ∃ bs : List Bool, acc = bs.map .bl ∧ bs.length = i ∧ Drum s ∧ s.length = st.length ∧ i ≤ n) (fun _ _ _ _ => ok_none) (by
      rintro i acc s ⟨bs, rfl, hl, _, _, hi⟩
      rw [List.length_map]
      exact szlt (by omega)) ⟨[], rfl, rfl, p, rfl, Nat.zero_le _⟩ (by
      rintro i d acc s hd ⟨bs, rfl, hl, hp, he, hi⟩
      obtain ⟨rfl, hin⟩ := rng_get hd
      obtain ⟨b, s', e, p', l'⟩ := hte (0 + (i : Int)) s hp
      exact ⟨_, true, s, rfl, rfl, (fun h => by cases h), fun _ => ⟨.bl b, s', e, bs ++ [b], by rw [List.map_append]; rfl, by rw [List.length_append, hl]; rfl, p', l'.trans he, by omega⟩⟩)
  exact ⟨bs, st', h, by rw [hl]; simp [rngD], hp, he⟩
theorem drawn_eq {st : Sto} (p : Drum st) (wide : Bool) : ∃ (a : Rs) (st' : Sto), m__law_drawn [.loc 1, .bl wide] st = some (a.d, st') ∧ a.Canon ∧ a.turn ≤ 60 ∧ a.first ≤ 400 ∧ Drum st' ∧ st'.length = st.length := by
  let E : Option D → Option D → Option D → Option D → Option D → En := fun t f h fo pi => [some (.loc 1), some (.bl wide), t, f, h, fo, pi, none, none]
  obtain ⟨turn, s1, a0, ht, p1, l1⟩ : ∃ (turn : Int) (s1 : Sto), ms__law_drawn_0 (E none none none none none) st = some (.nx (E (some (.int turn)) none none none none), s1) ∧ (0 < turn ∧ turn ≤ 60) ∧ Drum s1 ∧ s1.length = st.length := by
    cases wide with
    | true =>
      obtain ⟨v, s1, e, v0, v1, p1, l1⟩ := beat_eq p (many := 2) (by decide) (by decide)
      refine ⟨59 + v, s1, ?_, by omega, p1, l1⟩
      unfold ms__law_drawn_0
      dsimp only [E]; walk_at "ev"
      rw [e]
      walk_at "ev"
    | false =>
      obtain ⟨v, s1, e, v0, v1, p1, l1⟩ := beat_eq p (many := 8) (by decide) (by decide)
      obtain ⟨t, h, h1⟩ : ∃ t, atI [D.int 1, .int 1, .int 2, .int 3, .int 4, .int 5, .int 6, .int 10] v = some (.int t) ∧ (0 < t ∧ t ≤ 60) := atI_ints [1, 1, 2, 3, 4, 5, 6, 10] (fun t => 0 < t ∧ t ≤ 60) (by decide) v0 v1
      refine ⟨t, s1, ?_, h1, p1, l1⟩
      unfold ms__law_drawn_0
      dsimp only [E]; walk_at "ev"
      rw [e]
      walk_at "ev"
      rw [h]
      walk_at "ev"
  obtain ⟨first, s2, a1, hf, p2, l2⟩ : ∃ (first : Int) (s2 : Sto), ms__law_drawn_2 (E (some (.int turn)) none none none none) s1 = some (.nx (E (some (.int turn)) (some (.int first)) none none none), s2) ∧ (0 ≤ first ∧ first ≤ 400) ∧ Drum s2 ∧ s2.length = s1.length := by
    cases wide with
    | true =>
      obtain ⟨v, s2, e, v0, v1, p2, l2⟩ := beat_eq p1 (many := 2) (by decide) (by decide)
      refine ⟨400 * v, s2, ?_, by omega, p2, l2⟩
      unfold ms__law_drawn_2
      dsimp only [E]; walk_at "ev"
      rw [e]
      walk_at "ev"
      rw [if_pos (cMul_l (by omega))]
    | false =>
      obtain ⟨v, s2, e, v0, v1, p2, l2⟩ := beat_eq p1 (many := 25) (by decide) (by decide)
      obtain ⟨v', s3, e3, v30, v31, p3, l3⟩ := beat_eq p2 (many := 5) (by decide) (by decide)
      obtain ⟨t, h, h1⟩ : ∃ t, atI [D.int 0, .int 0, .int 1, .int 5, .int v] v' = some (.int t) ∧ (0 ≤ t ∧ t ≤ 400) := atI_ints [0, 0, 1, 5, v] (fun t => 0 ≤ t ∧ t ≤ 400) (by
        intro n hn
        simp only [List.mem_cons, List.mem_nil_iff, or_false] at hn
        omega) v30 v31
      refine ⟨t, s3, ?_, h1, p3, by omega⟩
      unfold ms__law_drawn_2
      dsimp only [E]; walk_at "ev"
      rw [e]
      walk_at "ev"
      rw [e3]
      walk_at "ev"
      rw [h]
      walk_at "ev"
  obtain ⟨h, s3, e3, h0, h1, p3, l3⟩ := beat_eq p2 (many := 4) (by decide) (by decide)
  have a2 : ms__law_drawn_4 (E (some (.int turn)) (some (.int first)) none none none) s2 = some (.nx (E (some (.int turn)) (some (.int first)) (some (.int h)) none none), s3) := by
    unfold ms__law_drawn_4
    dsimp only [E]; walk_at "ev"
    rw [e3]
    walk_at "ev"
  obtain ⟨fs, s4, e4, fl, p4, l4⟩ := draws (te := mAndV (mOp fLt (mCb m__law_beat (mCons (mV 0) (mCons (mC (.int 4)) mNil))) (mV 4)) (mOrV (mNotV (mV 1)) (mOp fEq (mOp fMod (mV 7) (mC (.int 2))) (mC (.int 0))))) (mi := miRng1 (mCons (mV 3) mNil)) (en := E (some (.int turn)) (some (.int first)) (some (.int h)) none none) (st := s3) (vs := [7]) (k := 7) (n := first.toNat) (by
      dsimp only [E]; walk_at "ev"
      rw [if_pos (small_ok (by omega))]) p3 (by omega) (by
      intro i s ps
      obtain ⟨v, s', e, v0, v1, p', l'⟩ := beat_eq ps (many := 4) (by decide) (by decide)
      refine ⟨decide (v < h) && (!wide || decide (i % 2 = 0)), s', ?_, p', l'⟩
      dsimp only [E]; walk_at "ev"
      rw [e]
      walk_at "ev"
      by_cases c : v < h
      · rw [decide_eq_true c]
        cases wide with
        | false =>
          walk_at "ev"
          rfl
        | true =>
          walk_at "ev"
          rw [cMod_ok (by decide)]
          walk_at "ev"
          rfl
      · rw [decide_eq_false c]
        walk_at "ev"
        rfl)
  have a3 : ms__law_drawn_6 (E (some (.int turn)) (some (.int first)) (some (.int h)) none none) s3 = some (.nx (E (some (.int turn)) (some (.int first)) (some (.int h)) (some (.lst (fs.map .bl))) none), s4) := by
    have key : ∀ q : ME, ∀ d s, q (E (some (.int turn)) (some (.int first)) (some (.int h)) none none) s3 = some (d, s) → (mAsg q (mgName 5)) (E (some (.int turn)) (some (.int first)) (some (.int h)) none none) s3 = some (.nx (E (some (.int turn)) (some (.int first)) (some (.int h)) (some d) none), s) := by
      intro q d s hq
      dsimp only [E] at hq ⊢
      walk_at "ev"
      rw [hq]
      walk_at "ev"
    exact key _ _ _ e4
  obtain ⟨h', s5, e5, h0', h1', p5, l5⟩ := beat_eq p4 (many := 4) (by decide) (by decide)
  have a4 : ms__law_drawn_8 (E (some (.int turn)) (some (.int first)) (some (.int h)) (some (.lst (fs.map .bl))) none) s4 = some (.nx (E (some (.int turn)) (some (.int first)) (some (.int h')) (some (.lst (fs.map .bl))) none), s5) := by
    unfold ms__law_drawn_8
    dsimp only [E]; walk_at "ev"
    rw [e5]
    walk_at "ev"
  obtain ⟨ps, s6, e6, pl, p6, l6⟩ := draws (te := mOp fLt (mCb m__law_beat (mCons (mV 0) (mCons (mC (.int 4)) mNil))) (mV 4)) (mi := miRng1 (mCons (mV 2) mNil)) (en := E (some (.int turn)) (some (.int first)) (some (.int h')) (some (.lst (fs.map .bl))) none) (st := s5) (vs := [8]) (k := 8) (n := turn.toNat) (by
      dsimp only [E]; walk_at "ev"
      rw [if_pos (small_ok (by omega))]) p5 (by omega) (by
      intro i s ps
      obtain ⟨v, s', e, v0, v1, p', l'⟩ := beat_eq ps (many := 4) (by decide) (by decide)
      refine ⟨decide (v < h'), s', ?_, p', l'⟩
      dsimp only [E]; walk_at "ev"
      rw [e]
      walk_at "ev")
  have a5 : ms__law_drawn_10 (E (some (.int turn)) (some (.int first)) (some (.int h')) (some (.lst (fs.map .bl))) none) s5 = some (.nx (E (some (.int turn)) (some (.int first)) (some (.int h')) (some (.lst (fs.map .bl))) (some (.lst (ps.map .bl)))), s6) := by
    have key : ∀ q : ME, ∀ d s, q (E (some (.int turn)) (some (.int first)) (some (.int h')) (some (.lst (fs.map .bl))) none) s5 = some (d, s) → (mAsg q (mgName 6)) (E (some (.int turn)) (some (.int first)) (some (.int h')) (some (.lst (fs.map .bl))) none) s5 = some (.nx (E (some (.int turn)) (some (.int first)) (some (.int h')) (some (.lst (fs.map .bl))) (some d)), s) := by
      intro q d s hq
      dsimp only [E] at hq ⊢
      walk_at "ev"
      rw [hq]
      walk_at "ev"
    exact key _ _ _ e6
  let T : Int → Bool := fun n => if n < first then fs.getD n.toNat false else ps.getD ((n - first) % turn).toNat false
  have hT : ∀ n, first ≤ n → T (n + turn) = T n := fun n hn => by
    show (if n + turn < first then _ else ps.getD ((n + turn - first) % turn).toNat false) = (if n < first then _ else ps.getD ((n - first) % turn).toNat false)
    rw [if_neg (by omega), if_neg (by omega), show n + turn - first = n - first + turn by omega, Int.add_emod_right]
  have b1 : fs.map D.bl = bl T 0 first.toNat := by
    rw [bools_bl, fl]
    exact bl_congr fun k k0 k1 => by
      show _ = (if k < first then _ else _)
      rw [if_pos (by omega)]
  have b2 : ps.map D.bl = bl T first turn.toNat := by
    rw [bools_bl, pl]
    unfold bl
    rw [rngI_shift first, List.map_map, List.map_map, List.map_map]
    refine List.map_congr_left fun k hk => ?_
    have := mem_rngI.mp hk
    show D.bl (ps.getD k.toNat false) = D.bl (if first + k < first then _ else ps.getD ((first + k - first) % turn).toNat false)
    rw [if_neg (by omega), show first + k - first = k by omega, Int.emod_eq_of_lt (by omega) (by omega)]
  obtain ⟨a, c1, c2, c3, c4, c5⟩ := form_of_eq (T := T) (N := first.toNat + 3 * turn.toNat) (b := first) (t := turn) hf.1 (by omega) ht.1 (by omega) (by omega) hT s6
  refine ⟨a, s6, mDef_rt rfl ((mSeq_nx a0).trans ((mSeq_nx a1).trans ((mSeq_nx a2).trans ((mSeq_nx a3).trans ((mSeq_nx a4).trans ((mSeq_nx a5).trans ?_)))))) (by omega), c1, by omega, by omega, p6, by omega⟩
  unfold ms__law_drawn_12
  dsimp only [E]; walk_at "ev"
  rw [b1, b2]
  rw [show fMul false (.lst (bl T first turn.toNat)) (.int 3) s6 = some (.lst (bl T first (3 * turn.toNat)), s6) by
    show (if small 3 = true ∧ (bl T first turn.toNat).length * 3 ≤ PySem.sizeLine then some (alloc false (List.replicate 3 (bl T first turn.toNat)).flatten s6) else none) = _
    rw [if_pos ⟨small_ok (by decide), by rw [bl_len]; exact szle (by omega)⟩, bl_rep ht.1 hT]
    rfl]
  walk_at "ev"
  rw [fAdd_lsts (by rw [bl_len, bl_len]; omega)]
  walk_at "ev"
  rw [show bl T 0 first.toNat ++ bl T first (3 * turn.toNat) = bl T 0 (first.toNat + 3 * turn.toNat) by
    have z := bl_app T 0 first.toNat (3 * turn.toNat)
    rw [show (0 : Int) + (first.toNat : Nat) = first by omega] at z
    exact z, c5]
  walk_at "ev"
theorem asked_eq {a b : Rs} (h : Fit a b) (st : Sto) : m__law_asked [a.d, b.d] st = some (.bl true, st) := by
  have wa := h.wa
  have wb := h.wb
  have ta := wa.turn
  have tb := wb.turn
  have ta9 := h.ta
  have tb9 := h.tb
  have fa9 := h.fa
  have fb9 := h.fb
  have fa := wa.first
  have fb := wb.first
  obtain ⟨L, L0, L1, La, Lb, e1⟩ := common_mul ta tb (by omega) (by omega) st
  have L9 : L ≤ 3600 := by
    have h1 : a.turn * b.turn ≤ a.turn * 60 := Int.mul_le_mul_of_nonneg_left tb9 (Int.le_of_lt ta)
    omega
  obtain ⟨F, eF, hF⟩ : ∃ F : Int, F = (if b.first > a.first then b.first else a.first) ∧ (0 ≤ F ∧ a.first ≤ F ∧ b.first ≤ F ∧ F ≤ 400) := ⟨_, rfl, by split <;> omega⟩
  let far : Int := F + 2 * L
  let E : Option D → Option D → Option D → Option D → Option D → Option D → Option D → Option D → Option D → Option D → En := fun t be fa bo sh re ba to le ri => [some a.d, some b.d, t, be, fa, bo, sh, re, ba, to, le, ri, none]
  let LA : D := .lst (bl a.has 0 far.toNat)
  let LB : D := .lst (bl b.has 0 far.toNat)
  have a0 : ms__law_asked_0 (E none none none none none none none none none none) st = some (.nx (E (some (.int L)) none none none none none none none none none), st) := by
    unfold ms__law_asked_0
    dsimp only [E]; walk_at "ev"
    rw [e1]
    walk_at "ev"
  have a1 : ms__law_asked_2 (E (some (.int L)) none none none none none none none none none) st = some (.nx (E (some (.int L)) (some (.int F)) none none none none none none none none), st) := by
    unfold ms__law_asked_2
    dsimp only [E]; walk_at "ev"
    rw [eF]
  have a2 : (mAsg (mOp (fAdd false) (mV 3) (mOp (fMul false) (mC (.int 2)) (mV 2))) (mgName 4)) (E (some (.int L)) (some (.int F)) none none none none none none none none) st = some (.nx (E (some (.int L)) (some (.int F)) (some (.int far)) none none none none none none none), st) := by
    dsimp only [E]; walk_at "ev"
    rw [if_pos (cMul_l (by omega))]
  have a3 : ms__law_asked_4 (E (some (.int L)) (some (.int F)) (some (.int far)) none none none none none none none) st = some (.nx (E (some (.int L)) (some (.int F)) (some (.int far)) none none none none none (some LA) (some LB)), st) := by
    unfold ms__law_asked_4
    dsimp only [E]; walk_at "ev"
    rw [list_eq wa (by omega) (by show a.first ≤ F + 2 * L; omega) (by show F + 2 * L < _; omega)]
    walk_at "ev"
    rw [list_eq wb (by omega) (by show b.first ≤ F + 2 * L; omega) (by show F + 2 * L < _; omega)]
    walk_at "ev"
    rfl
  have per : ∀ f : Bool → Bool → Bool, ∀ n, F ≤ n → f (a.has (n + L)) (b.has (n + L)) = f (a.has n) (b.has n) := fun f n hn => by
    rw [Rs.per_dvd La L0 ta n (by omega), Rs.per_dvd Lb L0 tb n (by omega)]
  have form : ∀ f : Bool → Bool → Bool, ∃ c : Rs, c.Canon ∧ (∀ n, 0 ≤ n → c.has n = f (a.has n) (b.has n)) ∧ c.first ≤ F ∧ c.turn ≤ L ∧ m__law_form_of [.lst (bl (fun n => f (a.has n) (b.has n)) 0 far.toNat), .int F, .int L] st = some (c.d, st) := fun f =>
    form_of_eq (T := fun n => f (a.has n) (b.has n)) (N := far.toNat) hF.1 (by omega) L0 (by omega) (by show F + L ≤ ((F + 2 * L).toNat : Int); omega) (per f) st
  obtain ⟨c1, k1, h1, f1, t1, m1⟩ := form fun x y => x || y
  obtain ⟨c2, k2, h2, f2, t2, m2⟩ := form fun x y => x && y
  obtain ⟨c3, k3, h3, f3, t3, m3⟩ := form fun x y => x && !y
  obtain ⟨c4, k4, h4, f4, t4, m4⟩ := form fun x y => y && !x
  have lcs : ∀ (te : ME) (f : Bool → Bool → Bool) (bo sh re ba to : Option D), (∀ x s, 0 ≤ x → x < far → te ((E (some (.int L)) (some (.int F)) (some (.int far)) bo sh re ba to (some LA) (some LB)).set 12 (some (.int x))) s = some (.bl (f (a.has x) (b.has x)), s)) →
      mLc false (miRng1 (mCons (mV 4) mNil)) (.name 12) mYes te [12] (E (some (.int L)) (some (.int F)) (some (.int far)) bo sh re ba to (some LA) (some LB)) st = some (.lst (bl (fun n => f (a.has n) (b.has n)) 0 far.toNat), st) := by
    intro te f bo sh re ba to hte
    have hfar : 0 ≤ far ∧ far < 100000 := by
      show 0 ≤ F + 2 * L ∧ F + 2 * L < _
      omega
    rw [lc_ints (ns := rngI 0 far.toNat) (st1 := st) (by
      dsimp only [E]; walk_at "ev"
      rw [if_pos (small_ok (by omega)), rngD_eq]) (fun _ => true) (fun n => .bl (f (a.has n) (b.has n))) (by rw [length_rngI]; exact szlt (by omega)) fun x hx => ⟨(E (some (.int L)) (some (.int F)) (some (.int far)) bo sh re ba to (some LA) (some LB)).set 12 (some (.int x)), rfl, rfl, fun _ => by
      have := mem_rngI.mp hx
      exact hte x st (by omega) (by omega)⟩, List.filter_eq_self.mpr (fun _ _ => rfl)]
    unfold bl
    rw [List.map_map]
    rfl
  have ga : ∀ x, 0 ≤ x → x < far → atI (bl a.has 0 far.toNat) x = some (.bl (a.has x)) := fun x x0 x1 => by
    rw [atI_bl x0 (by omega), show 0 + x = x by omega]
  have gb : ∀ x, 0 ≤ x → x < far → atI (bl b.has 0 far.toNat) x = some (.bl (b.has x)) := fun x x0 x1 => by
    rw [atI_bl x0 (by omega), show 0 + x = x by omega]
  have a4 : ms__law_asked_6 (E (some (.int L)) (some (.int F)) (some (.int far)) none none none none none (some LA) (some LB)) st = some (.nx (E (some (.int L)) (some (.int F)) (some (.int far)) (some c1.d) none none none none (some LA) (some LB)), st) := by
    have lc := lcs (mOrV (mOp fIx (mV 10) (mV 12)) (mOp fIx (mV 11) (mV 12))) (fun x y => x || y) none none none none none (by
      intro x s x0 x1
      dsimp only [E, LA, LB]; walk_at "ev"
      rw [ga x x0 x1]
      walk_at "ev"
      cases a.has x with
      | true => rfl
      | false =>
        walk_at "ev"
        rw [gb x x0 x1]
        rfl)
    have key : ∀ q : ME, ∀ d, q (E (some (.int L)) (some (.int F)) (some (.int far)) none none none none none (some LA) (some LB)) st = some (d, st) → m__law_form_of [d, .int F, .int L] st = some (c1.d, st) → (mAsg (mCb m__law_form_of (mCons q (mCons (mV 3) (mCons (mV 2) mNil)))) (mgName 5)) (E (some (.int L)) (some (.int F)) (some (.int far)) none none none none none (some LA) (some LB)) st = some (.nx (E (some (.int L)) (some (.int F)) (some (.int far)) (some c1.d) none none none none (some LA) (some LB)), st) := by
      intro q d hq hm
      dsimp only [E] at hq ⊢
      walk_at "ev"
      rw [hq]
      walk_at "ev"
      rw [hm]
      walk_at "ev"
    exact key _ _ lc m1
  have a5 : ms__law_asked_8 (E (some (.int L)) (some (.int F)) (some (.int far)) (some c1.d) none none none none (some LA) (some LB)) st = some (.nx (E (some (.int L)) (some (.int F)) (some (.int far)) (some c1.d) (some c2.d) none none none (some LA) (some LB)), st) := by
    have lc := lcs (mAndV (mOp fIx (mV 10) (mV 12)) (mOp fIx (mV 11) (mV 12))) (fun x y => x && y) (some c1.d) none none none none (by
      intro x s x0 x1
      dsimp only [E, LA, LB]; walk_at "ev"
      rw [ga x x0 x1]
      walk_at "ev"
      cases a.has x with
      | false => rfl
      | true =>
        walk_at "ev"
        rw [gb x x0 x1]
        rfl)
    have key : ∀ q : ME, ∀ d, q (E (some (.int L)) (some (.int F)) (some (.int far)) (some c1.d) none none none none (some LA) (some LB)) st = some (d, st) → m__law_form_of [d, .int F, .int L] st = some (c2.d, st) → (mAsg (mCb m__law_form_of (mCons q (mCons (mV 3) (mCons (mV 2) mNil)))) (mgName 6)) (E (some (.int L)) (some (.int F)) (some (.int far)) (some c1.d) none none none none (some LA) (some LB)) st = some (.nx (E (some (.int L)) (some (.int F)) (some (.int far)) (some c1.d) (some c2.d) none none none (some LA) (some LB)), st) := by
      intro q d hq hm
      dsimp only [E] at hq ⊢
      walk_at "ev"
      rw [hq]
      walk_at "ev"
      rw [hm]
      walk_at "ev"
    exact key _ _ lc m2
  have a6 : ms__law_asked_10 (E (some (.int L)) (some (.int F)) (some (.int far)) (some c1.d) (some c2.d) none none none (some LA) (some LB)) st = some (.nx (E (some (.int L)) (some (.int F)) (some (.int far)) (some c1.d) (some c2.d) (some c3.d) none none (some LA) (some LB)), st) := by
    have lc := lcs (mAndV (mOp fIx (mV 10) (mV 12)) (mNotV (mOp fIx (mV 11) (mV 12)))) (fun x y => x && !y) (some c1.d) (some c2.d) none none none (by
      intro x s x0 x1
      dsimp only [E, LA, LB]; walk_at "ev"
      rw [ga x x0 x1]
      walk_at "ev"
      cases a.has x with
      | false => rfl
      | true =>
        walk_at "ev"
        rw [gb x x0 x1]
        rfl)
    have key : ∀ q : ME, ∀ d, q (E (some (.int L)) (some (.int F)) (some (.int far)) (some c1.d) (some c2.d) none none none (some LA) (some LB)) st = some (d, st) → m__law_form_of [d, .int F, .int L] st = some (c3.d, st) → (mAsg (mCb m__law_form_of (mCons q (mCons (mV 3) (mCons (mV 2) mNil)))) (mgName 7)) (E (some (.int L)) (some (.int F)) (some (.int far)) (some c1.d) (some c2.d) none none none (some LA) (some LB)) st = some (.nx (E (some (.int L)) (some (.int F)) (some (.int far)) (some c1.d) (some c2.d) (some c3.d) none none (some LA) (some LB)), st) := by
      intro q d hq hm
      dsimp only [E] at hq ⊢
      walk_at "ev"
      rw [hq]
      walk_at "ev"
      rw [hm]
      walk_at "ev"
    exact key _ _ lc m3
  have a7 : ms__law_asked_12 (E (some (.int L)) (some (.int F)) (some (.int far)) (some c1.d) (some c2.d) (some c3.d) none none (some LA) (some LB)) st = some (.nx (E (some (.int L)) (some (.int F)) (some (.int far)) (some c1.d) (some c2.d) (some c3.d) (some c4.d) none (some LA) (some LB)), st) := by
    have lc := lcs (mAndV (mOp fIx (mV 11) (mV 12)) (mNotV (mOp fIx (mV 10) (mV 12)))) (fun x y => y && !x) (some c1.d) (some c2.d) (some c3.d) none none (by
      intro x s x0 x1
      dsimp only [E, LA, LB]; walk_at "ev"
      rw [gb x x0 x1]
      walk_at "ev"
      cases b.has x with
      | false => rfl
      | true =>
        walk_at "ev"
        rw [ga x x0 x1]
        rfl)
    have key : ∀ q : ME, ∀ d, q (E (some (.int L)) (some (.int F)) (some (.int far)) (some c1.d) (some c2.d) (some c3.d) none none (some LA) (some LB)) st = some (d, st) → m__law_form_of [d, .int F, .int L] st = some (c4.d, st) → (mAsg (mCb m__law_form_of (mCons q (mCons (mV 3) (mCons (mV 2) mNil)))) (mgName 8)) (E (some (.int L)) (some (.int F)) (some (.int far)) (some c1.d) (some c2.d) (some c3.d) none none (some LA) (some LB)) st = some (.nx (E (some (.int L)) (some (.int F)) (some (.int far)) (some c1.d) (some c2.d) (some c3.d) (some c4.d) none (some LA) (some LB)), st) := by
      intro q d hq hm
      dsimp only [E] at hq ⊢
      walk_at "ev"
      rw [hq]
      walk_at "ev"
      rw [hm]
      walk_at "ev"
    exact key _ _ lc m4
  let told : D := .tup [c1.d, c2.d, c3.d, c4.d]
  have a8 : ms__law_asked_14 (E (some (.int L)) (some (.int F)) (some (.int far)) (some c1.d) (some c2.d) (some c3.d) (some c4.d) none (some LA) (some LB)) st = some (.nx (E (some (.int L)) (some (.int F)) (some (.int far)) (some c1.d) (some c2.d) (some c3.d) (some c4.d) (some told) (some LA) (some LB)), st) := by
    unfold ms__law_asked_14 mCbK
    dsimp only [E, told]; walk_at "ev"
    rw [union_eq h k1 h1]
    walk_at "ev"
    rw [meet_eq h k2 h2]
    walk_at "ev"
    rw [less_eq h k3 h3]
    walk_at "ev"
    rw [if_pos ⟨trivial, trivial⟩, show pick [0, 1] [b.d, a.d] = [b.d, a.d] from rfl, less_eq h.swap k4 h4]
    walk_at "ev"
  refine mDef_rt rfl ((mSeq_nx a0).trans ((mSeq_nx a1).trans ((mSeq_nx a2).trans ((mSeq_nx a3).trans ((mSeq_nx a4).trans ((mSeq_nx a5).trans ((mSeq_nx a6).trans ((mSeq_nx a7).trans ((mSeq_nx a8).trans ?_)))))))))
  unfold ms__law_asked_16
  dsimp only [E]; walk_at "ev"
  have pt : PI 3 told := .tup 2 _ (by show 4 < 1000000; decide) (by
    intro x hx
    simp only [List.mem_cons, List.mem_nil_iff, or_false] at hx
    rcases hx with rfl | rfl | rfl | rfl
    · exact pi_rs k1.wf (by omega) (by omega)
    · exact pi_rs k2.wf (by omega) (by omega)
    · exact pi_rs k3.wf (by omega) (by omega)
    · exact pi_rs k4.wf (by omega) (by omega))
  rw [show m__law_same 4 [told, .tup [c1.d, c2.d, c3.d, c4.d]] st = _ from same_eq pt st]
  walk_at "ev"
end K02


namespace K02
open PySem PySem.Spec PyProof.Rows L2 My
local macro_rules | `(tactic| walk_at "ev") => `(tactic| try simp only [mDef, mSeq, mAsg, mV_eq, mC, mOp, mUn, mCb, mNil, mCons, mTup, mIfS, mTB, mT, mRet, mNext, mgTup, mgCons, mgNil, mgT, mgName, setTg, setTgs, mIf, mAnd, mOr, mNot, mAndV, mOrV, mNotV, fB, fLt_int, fLe, fGt, fGe, fAdd_int, fSub_int, fMod_int, fDiv_int, fMul_int, fNeg_int, fIn_tup, fIn_lst, settle_same, fIx, look_tup, look_d, look_lst, look_fro, lookL_lst, atI_0, atI_1, atI_2, atI_3, fLen_tup, fLen_lst, miSeq, srcOf, mPar, mAug, mRetN, fTuple_lst, fTuple_tup, alloc_f, fEq_int, fMaxL_2, fMinL_2, fSorted_ints, fIsN_int, fIsN_non, fNe_int, mDrop, wipeE, mYes, My.isNon, miRng1, miRng2, fInt_int, truD, fShl_int, fPow_int, fAbs_int, fEq_bl, fIsi_tt, fIsi_it, fIsi_ii, fIsi_ib, fIsi_bt, fIsi_bi, fIsi_bb, fIsi_tb, fIsi_ti, last_concat, List.dropLast_concat, look_loc, lookL_loc, fLen_loc, ixN_0, ixN_1, ixN_2, ixN_3, fSetL_loc, fAppend_loc, fPop_loc, fExtend_loc, mgSub, mMt, alloc_t, mFrz, mSl, mRev, mNone, mSome, mLst, fNeg, fSet_tup, fSet_lst, fInS_int, fSortS_set, fAll_lst, fAdd_tup, mNotT, mCV, mBreak, mCont, z0, z1, z2, z3, z4, z5, z6, z7, z8, z9, List.lookup_cons,
  b_some, b_none, m_some, Option.join_some, List.getElem?_cons_zero, List.getElem?_cons_succ, List.set_cons_zero, List.set_cons_succ, List.map_cons, List.map_nil, List.length_cons, List.length_nil, List.replicate, List.cons_append, List.nil_append, Nat.reduceAdd, Nat.reduceSub, if_true, if_false, reduceIte, reduceCtorEq, ite_bind, Bool.false_eq_true, decide_eq_true_eq, List.length_map, decide_true, decide_false, Bool.not_true, Bool.not_false])
local macro_rules | `(tactic| walk_at "nx") => `(tactic| (refine (mSeq_nx (by (walk_at "ev"; rfl))).trans ?_))
theorem PI.mono {n m : Nat} {d : D} (h : PI n d) (l : n ≤ m) : PI m d := by
  induction h generalizing m with
  | int n i => exact .int m i
  | tup n ds hl h ih =>
    obtain ⟨k, rfl⟩ : ∃ k, m = k + 1 := ⟨m - 1, by omega⟩
    exact .tup k ds hl fun d hd => ih d hd (by omega)
def evenR : Rs := ⟨[], 0, 2, [0]⟩
def farR (n : Int) : Rs := ⟨[], n + 1, 1, [0]⟩
def lowR (n : Int) : Rs := ⟨rngI 0 (n + 1).toNat, n + 1, 1, []⟩
theorem evenC : evenR.Canon := canon1 (wf_single (by decide) (by decide) (by decide) (by decide) (by decide)) (fun h => by cases h)
theorem farC {n : Int} (h : 0 ≤ n) : (farR n).Canon := canon1 (wf_single List.Pairwise.nil (by simp) (by omega) (by decide) (by decide)) (fun _ => by simp)
theorem lowC {n : Int} (h : 0 ≤ n) : (lowR n).Canon := canon_fin (rngI_lt _ _) (fun m hm => by
  have := mem_rngI.mp hm
  omega) (by omega) fun _ => mem_rngI.mpr (by omega)
theorem even_has {n : Int} (h : 0 ≤ n) : evenR.has n = true ↔ n % 2 = 0 := by
  rw [hasI]
  show (n < 0 ∧ n ∈ ([] : List Int)) ∨ (0 ≤ n ∧ n % 2 ∈ [0]) ↔ _
  simp [h]
theorem far_has {k n : Int} : (farR k).has n = true ↔ k < n := by
  rw [hasI]
  show (n < k + 1 ∧ n ∈ ([] : List Int)) ∨ (k + 1 ≤ n ∧ n % 1 ∈ [0]) ↔ _
  simp
  omega
theorem low_has {k n : Int} (h : 0 ≤ k) : (lowR k).has n = true ↔ 0 ≤ n ∧ n ≤ k := by
  rw [hasI]
  show (n < k + 1 ∧ n ∈ rngI 0 (k + 1).toNat) ∨ (k + 1 ≤ n ∧ n % 1 ∈ ([] : List Int)) ↔ _
  rw [mem_rngI]
  simp
  omega
theorem fit {a b : Rs} (wa : a.Wf) (wb : b.Wf) (fa : a.first ≤ 400 := by decide) (fb : b.first ≤ 400 := by decide) (ta : a.turn ≤ 60 := by decide) (tb : b.turn ≤ 60 := by decide) : Fit a b := ⟨wa, wb, fa, fb, ta, tb⟩
theorem un {a b c : Rs} (h : Fit a b) (hc : c.Canon) (hh : ∀ n, 0 ≤ n → (c.has n = true ↔ a.has n = true ∨ b.has n = true)) (st : Sto) : m_union [a.d, b.d] st = some (c.d, st) := union_eq h hc (fun n h0 => by rw [Bool.eq_iff_iff, hh n h0, Bool.or_eq_true]) st
theorem me {a b c : Rs} (h : Fit a b) (hc : c.Canon) (hh : ∀ n, 0 ≤ n → (c.has n = true ↔ a.has n = true ∧ b.has n = true)) (st : Sto) : m_meet [a.d, b.d] st = some (c.d, st) := meet_eq h hc (fun n h0 => by rw [Bool.eq_iff_iff, hh n h0, Bool.and_eq_true]) st
theorem le {a b c : Rs} (h : Fit a b) (hc : c.Canon) (hh : ∀ n, 0 ≤ n → (c.has n = true ↔ a.has n = true ∧ ¬ b.has n = true)) (st : Sto) : m_less [a.d, b.d] st = some (c.d, st) := less_eq h hc (fun n h0 => by
  rw [Bool.eq_iff_iff, hh n h0, Bool.and_eq_true]
  cases b.has n <;> simp) st
noncomputable abbrev WF : List (Str × MF) := [("union", m_union), ("meet", m_meet), ("less", m_less)]
theorem hand_eq {st : Sto} (p : Drum st) : ∃ st', m__law_hand [.loc 1] st = some (.bl true, st') ∧ Drum st' ∧ st'.length = st.length := by
  obtain ⟨n, s, e, v0, v1, p1, l1⟩ := beat_eq p (many := 60) (by decide) (by decide)
  have o := oddC.wf
  have ev := evenC.wf
  have wh := wholeC.wf
  have no := noneR_canon.wf
  have sC := oneC (n := n) v0
  have fC := farC (n := n) v0
  have lC := lowC (n := n) v0
  have s1 : (oneR n).first ≤ 400 := by show n + 1 ≤ 400; omega
  have s2 : (oneR n).turn ≤ 60 := by show (1 : Int) ≤ 60; decide
  have f1 : (farR n).first ≤ 400 := by show n + 1 ≤ 400; omega
  have f2 : (farR n).turn ≤ 60 := by show (1 : Int) ≤ 60; decide
  have w1 : (lowR n).first ≤ 400 := by show n + 1 ≤ 400; omega
  have w2 : (lowR n).turn ≤ 60 := by show (1 : Int) ≤ 60; decide
  have r1 := un (c := wholeR) (fit o ev) wholeC (fun k h => by
    rw [odd_has h, even_has h, whole_has h]
    constructor
    · intro _; omega
    · intro _; rfl) s
  have r2 := me (c := noneR) (fit o ev) noneR_canon (fun k h => by
    rw [odd_has h, even_has h, none_has]
    constructor
    · exact False.elim
    · intro q; omega) s
  have r3 := le (c := oddR) (fit wh ev) oddC (fun k h => by
    rw [odd_has h, even_has h, whole_has h]
    constructor
    · intro q; exact ⟨rfl, by omega⟩
    · intro q; have := q.2; omega) s
  have r4 := le (c := noneR) (fit o o) noneR_canon (fun k h => by
    rw [odd_has h, none_has]
    constructor
    · exact False.elim
    · intro q; exact q.2 q.1) s
  have r5 := un (c := noneR) (fit no no) noneR_canon (fun k h => by
    rw [none_has]
    simp) s
  have r6 := me (c := oneR n) (fit wh sC.wf (by decide) s1 (by decide) s2) sC (fun k h => by
    rw [one_has, whole_has h]
    simp) s
  have r7 := le (c := noneR) (fit sC.wf wh s1 (by decide) s2 (by decide)) noneR_canon (fun k h => by
    rw [one_has, whole_has h, none_has]
    simp) s
  have r8 := un (c := oddR) (fit o o) oddC (fun k h => by
    rw [odd_has h]
    simp) s
  have q1 := le (c := lowR n) (fit wh fC.wf (by decide) f1 (by decide) f2) lC (fun k h => by
    rw [low_has v0, whole_has h, far_has]
    constructor
    · intro q; exact ⟨rfl, by omega⟩
    · intro q; have := q.2; omega) s
  have c1 : (⟨[1, 3, 4], 5, 2, [1]⟩ : Rs).Canon := canon1 (wf_single (by decide) (by decide) (by decide) (by decide) (by decide)) (by decide)
  have c2 : (⟨[], 0, 6, [1]⟩ : Rs).Canon := canon1 (wf_single (by decide) (by decide) (by decide) (by decide) (by decide)) (fun h => by cases h)
  have c3 : (⟨[], 0, 12, [9]⟩ : Rs).Canon := canon1 (wf_single (by decide) (by decide) (by decide) (by decide) (by decide)) (fun h => by cases h)
  have t3 : (⟨[], 0, 3, [1]⟩ : Rs).Wf := wf_single (by decide) (by decide) (by decide) (by decide) (by decide)
  have t41 : (⟨[], 0, 4, [1]⟩ : Rs).Wf := wf_single (by decide) (by decide) (by decide) (by decide) (by decide)
  have t63 : (⟨[], 0, 6, [3]⟩ : Rs).Wf := wf_single (by decide) (by decide) (by decide) (by decide) (by decide)
  have t40 : (⟨[], 0, 4, [0]⟩ : Rs).Wf := wf_single (by decide) (by decide) (by decide) (by decide) (by decide)
  have t42 : (⟨[], 0, 4, [2]⟩ : Rs).Wf := wf_single (by decide) (by decide) (by decide) (by decide) (by decide)
  have per : ∀ (t r k : Int), 0 ≤ k → ((⟨[], 0, t, [r]⟩ : Rs).has k = true ↔ k % t = r) := fun t r k h => by
    rw [hasI]
    show (k < 0 ∧ k ∈ ([] : List Int)) ∨ (0 ≤ k ∧ k % t ∈ [r]) ↔ _
    simp [h]
  have q2 := un (c := ⟨[1, 3, 4], 5, 2, [1]⟩) (fit o (oneC (n := 4) (by decide)).wf) c1 (fun k h => by
    rw [odd_has h, one_has, hasI]
    show (k < 5 ∧ k ∈ [1, 3, 4]) ∨ (5 ≤ k ∧ k % 2 ∈ [1]) ↔ _
    simp
    omega) s
  have q3 := me (c := ⟨[], 0, 6, [1]⟩) (fit o t3) c2 (fun k h => by
    rw [odd_has h, per 6 1 k h, per 3 1 k h]
    omega) s
  have q4 := un (c := wholeR) (fit lC.wf fC.wf w1 f1 w2 f2) wholeC (fun k h => by
    rw [low_has v0, far_has, whole_has h]
    constructor
    · intro _; omega
    · intro _; rfl) s
  have q5 := me (c := ⟨[], 0, 12, [9]⟩) (fit t41 t63) c3 (fun k h => by
    rw [per 12 9 k h, per 4 1 k h, per 6 3 k h]
    omega) s
  have q6 := un (c := evenR) (fit t40 t42) evenC (fun k h => by
    rw [even_has h, per 4 0 k h, per 4 2 k h]
    omega) s
  let sg : D := (oneR n).d
  let fr : D := (farR n).d
  let lw : D := (lowR n).d
  let G : Option D → Option D → Option D → Option D → Option D → Option D → Option D → Option D → Option D → Option D → En := fun nn ro lo to si fa wo on ot du => [some (.loc 1), nn, ro, lo, to, some oddR.d, some evenR.d, some wholeR.d, some noneR.d, si, fa, wo, on, ot, du]
  have a0 : ms__law_hand_2 [some (.loc 1), none, none, none, none, none, none, none, none, none, none, none, none, none, none] st = some (.nx (G none none none none none none none none none none), st) := by
    unfold ms__law_hand_2
    dsimp only [G]; walk_at "ev"
    rfl
  have a1 : ms__law_hand_4 (G none none none none none none none none none none) st = some (.nx (G (some (.int n)) none none none none none none none none none), s) := by
    unfold ms__law_hand_4
    dsimp only [G]; walk_at "ev"
    rw [e]
    walk_at "ev"
  have a2 : ms__law_hand_6 (G (some (.int n)) none none none none none none none none none) s = some (.nx (G (some (.int n)) none none none (some sg) (some fr) none none none none), s) := by
    unfold ms__law_hand_6
    dsimp only [G]; walk_at "ev"
    rfl
  let rows : List D := [.tup [.fn "union", oddR.d, evenR.d, wholeR.d], .tup [.fn "meet", oddR.d, evenR.d, noneR.d], .tup [.fn "less", wholeR.d, evenR.d, oddR.d], .tup [.fn "less", oddR.d, oddR.d, noneR.d], .tup [.fn "union", noneR.d, noneR.d, noneR.d], .tup [.fn "meet", wholeR.d, sg, sg], .tup [.fn "less", sg, wholeR.d, noneR.d], .tup [.fn "union", oddR.d, oddR.d, oddR.d]]
  have a3 : ms__law_hand_8 (G (some (.int n)) none none none (some sg) (some fr) none none none none) s = some (.nx (G (some (.int n)) (some (.lst rows)) none none (some sg) (some fr) none none none none), s) := by
    unfold ms__law_hand_8
    dsimp only [G, rows]; walk_at "ev"
  have po := pi_rs o (by decide) (by decide)
  have pe := pi_rs ev (by decide) (by decide)
  have pw := pi_rs wh (by decide) (by decide)
  have pn := pi_rs no (by decide) (by decide)
  have ps := pi_rs sC.wf (by show n + 1 < _; omega) (by show (1 : Int) < _; decide)
  have up : ∀ {d : D}, PI 2 d → PI 3 d := fun h => h.mono (by decide)
  obtain ⟨o1, s', a4, k⟩ := for_inv (mi := miSeq (mV 2)) (T := .tup [.name 11, .name 12, .name 13, .name 14]) (b := ms__law_hand_0) (en := G (some (.int n)) (some (.lst rows)) none none (some sg) (some fr) none none none none) (st := s) (st1 := s) (s := ⟨rows, none⟩) (by
      dsimp only [G]; walk_at "ev")
    (fun _ en t => t = s ∧ ∃ wo on ot du, en = G (some (.int n)) (some (.lst rows)) none none (some sg) (some fr) wo on ot du) (fun _ _ => False) (fun _ _ => False) (fun _ _ _ _ => ok_none) ⟨rfl, none, none, none, none, rfl⟩ (by
      rintro i d en t hd ⟨rfl, wo, on, ot, du, rfl⟩
      obtain ⟨nm, g, x, y, z, hl, rfl, hz, hp⟩ : ∃ (nm : Str) (g : MF) (x y z : D), WF.lookup nm = some g ∧ d = .tup [.fn nm, x, y, z] ∧ g [x, y] t = some (z, t) ∧ PI 2 z := by
        have m := List.mem_of_getElem? hd
        simp only [rows, List.mem_cons, List.mem_nil_iff, or_false] at m
        rcases m with rfl | rfl | rfl | rfl | rfl | rfl | rfl | rfl
        · exact ⟨_, m_union, _, _, _, rfl, rfl, r1, pw⟩
        · exact ⟨_, m_meet, _, _, _, rfl, rfl, r2, pn⟩
        · exact ⟨_, m_less, _, _, _, rfl, rfl, r3, po⟩
        · exact ⟨_, m_less, _, _, _, rfl, rfl, r4, pn⟩
        · exact ⟨_, m_union, _, _, _, rfl, rfl, r5, pn⟩
        · exact ⟨_, m_meet, _, _, _, rfl, rfl, r6, ps⟩
        · exact ⟨_, m_less, _, _, _, rfl, rfl, r7, pn⟩
        · exact ⟨_, m_union, _, _, _, rfl, rfl, r8, po⟩
      let en' : En := G (some (.int n)) (some (.lst rows)) none none (some sg) (some fr) (some (.fn nm)) (some x) (some y) (some z)
      have cv : mCV 11 WF (mCons (mV 12) (mCons (mV 13) mNil)) en' t = some (z, t) := (mCV_eq rfl hl).trans hz
      have key : ∀ q : ME, q en' t = some (z, t) → (mIfS (mNot (mT (mCb (m__law_same 4) (mCons q (mCons (mV 14) mNil))))) (mRet (mC (.bl false))) mNext) en' t = some (.nx en', t) := by
        intro q hq
        dsimp only [en', G] at hq ⊢
        walk_at "ev"
        rw [hq]
        walk_at "ev"
        rw [same_eq (up hp) t]
        rfl
      exact ⟨en', .nx en', t, rfl, key _ cv, rfl, _, _, _, _, rfl⟩)
  cases o1 with
  | nx e =>
    rcases k with ⟨rfl, wo, on, ot, du, rfl⟩ | k
    · have a4 : ms__law_hand_10 (G (some (.int n)) (some (.lst rows)) none none (some sg) (some fr) none none none none) s' = some (.nx (G (some (.int n)) (some (.lst rows)) none none (some sg) (some fr) wo on ot du), s') := a4
      have a5 : ms__law_hand_12 (G (some (.int n)) (some (.lst rows)) none none (some sg) (some fr) wo on ot du) s' = some (.nx (G (some (.int n)) (some (.lst rows)) (some lw) none (some sg) (some fr) wo on ot du), s') := by
        unfold ms__law_hand_12
        dsimp only [G]; walk_at "ev"
        rw [q1]
        walk_at "ev"
        rfl
      let due : D := .tup [(⟨[1, 3, 4], 5, 2, [1]⟩ : Rs).d, (⟨[], 0, 6, [1]⟩ : Rs).d, lw, wholeR.d, (⟨[], 0, 12, [9]⟩ : Rs).d, evenR.d]
      have a6 : ms__law_hand_14 (G (some (.int n)) (some (.lst rows)) (some lw) none (some sg) (some fr) wo on ot du) s' = some (.nx (G (some (.int n)) (some (.lst rows)) (some lw) (some due) (some sg) (some fr) wo on ot du), s') := by
        unfold ms__law_hand_14 mCbK
        dsimp only [G, due]; walk_at "ev"
        rw [if_pos ⟨trivial, trivial⟩]
        rw [show m_union (pick [1, 0] [.tup [.tup [.int 4], .int 5, .int 1, .tup []], oddR.d]) s' = _ from q2]
        walk_at "ev"
        rw [if_pos ⟨trivial, trivial⟩]
        rw [show m_meet (pick [0, 1] [oddR.d, .tup [.tup [], .int 0, .int 3, .tup [.int 1]]]) s' = _ from q3]
        walk_at "ev"
        rw [q4]
        walk_at "ev"
        rw [show m_meet [.tup [.tup [], .int 0, .int 4, .tup [.int 1]], .tup [.tup [], .int 0, .int 6, .tup [.int 3]]] s' = _ from q5]
        walk_at "ev"
        rw [show m_union [.tup [.tup [], .int 0, .int 4, .tup [.int 0]], .tup [.tup [], .int 0, .int 4, .tup [.int 2]]] s' = _ from q6]
        walk_at "ev"
      refine ⟨s', mDef_rt rfl ((mSeq_nx a0).trans ((mSeq_nx a1).trans ((mSeq_nx a2).trans ((mSeq_nx a3).trans ((mSeq_nx a4).trans ((mSeq_nx a5).trans ((mSeq_nx a6).trans ?_))))))) (by omega), p1, l1⟩
      have pd : PI 3 due := .tup 2 _ (by show 6 < 1000000; decide) (by
        intro x hx
        simp only [List.mem_cons, List.mem_nil_iff, or_false] at hx
        rcases hx with rfl | rfl | rfl | rfl | rfl | rfl
        · exact pi_rs c1.wf (by decide) (by decide)
        · exact pi_rs c2.wf (by decide) (by decide)
        · exact pi_rs lC.wf (by show n + 1 < _; omega) (by show (1 : Int) < _; decide)
        · exact pw
        · exact pi_rs c3.wf (by decide) (by decide)
        · exact pe)
      have tr : mTupR (mOp (fAdd false) (mV 1) (mC (.int 1))) (G (some (.int n)) (some (.lst rows)) (some lw) (some due) (some sg) (some fr) wo on ot du) s' = some (.tup ((rngI 0 (n + 1).toNat).map .int), s') := by
        unfold mTupR
        dsimp only [G]; walk_at "ev"
        rw [if_pos (by omega), rngD_eq]
      have key : ∀ q : ME, ∀ ms : List Int, q (G (some (.int n)) (some (.lst rows)) (some lw) (some due) (some sg) (some fr) wo on ot du) s' = some (.tup (ms.map .int), s') → due = .tup [(⟨[1, 3, 4], 5, 2, [1]⟩ : Rs).d, (⟨[], 0, 6, [1]⟩ : Rs).d, .tup [.tup (ms.map .int), .int (n + 1), .int 1, .tup []], wholeR.d, (⟨[], 0, 12, [9]⟩ : Rs).d, evenR.d] →
          (mRet (mCb (m__law_same 4) (mCons (mV 4) (mCons (mTup (mCons (mTup (mCons (mTup (mCons (mC (.int 1)) (mCons (mC (.int 3)) (mCons (mC (.int 4)) mNil)))) (mCons (mC (.int 5)) (mCons (mC (.int 2)) (mCons (mTup (mCons (mC (.int 1)) mNil)) mNil))))) (mCons (mTup (mCons (mTup mNil) (mCons (mC (.int 0)) (mCons (mC (.int 6)) (mCons (mTup (mCons (mC (.int 1)) mNil)) mNil))))) (mCons (mTup (mCons q (mCons (mOp (fAdd false) (mV 1) (mC (.int 1))) (mCons (mC (.int 1)) (mCons (mTup mNil) mNil))))) (mCons (mV 7) (mCons (mTup (mCons (mTup mNil) (mCons (mC (.int 0)) (mCons (mC (.int 12)) (mCons (mTup (mCons (mC (.int 9)) mNil)) mNil))))) (mCons (mV 6) mNil))))))) mNil)))) (G (some (.int n)) (some (.lst rows)) (some lw) (some due) (some sg) (some fr) wo on ot du) s' = some (.rt (.bl true), s') := by
        intro q ms hq hdue
        have sm : m__law_same 4 [due, .tup [(⟨[1, 3, 4], 5, 2, [1]⟩ : Rs).d, (⟨[], 0, 6, [1]⟩ : Rs).d, .tup [.tup (ms.map .int), .int (n + 1), .int 1, .tup []], wholeR.d, (⟨[], 0, 12, [9]⟩ : Rs).d, evenR.d]] s' = some (.bl true, s') := by
          rw [← hdue]
          exact same_eq pd s'
        clear_value due
        dsimp only [G] at hq ⊢
        walk_at "ev"
        rw [hq]
        walk_at "ev"
        rw [show m__law_same 4 [due, .tup [.tup [.tup [.int 1, .int 3, .int 4], .int 5, .int 2, .tup [.int 1]], .tup [.tup [], .int 0, .int 6, .tup [.int 1]], .tup [.tup (ms.map .int), .int (n + 1), .int 1, .tup []], wholeR.d, .tup [.tup [], .int 0, .int 12, .tup [.int 9]], evenR.d]] s' = _ from sm]
        walk_at "ev"
      exact key _ _ tr rfl
    · exact k.elim
  | _ => exact k.elim
theorem law_true (ns : List Int) (_ : ns.length ≤ 63) : ∃ st, m_law [.fro (ns.map D.int)] [] = some (.bl true, st) := by
  obtain ⟨s0, h0, p0⟩ := drum_eq ns
  obtain ⟨s1, h1, p1, l1⟩ := hand_eq p0
  let F : D := .fro (ns.map D.int)
  let E : Option D → Option D → Option D → En := fun l a b => [some F, some (.loc 1), l, a, b]
  have a0 : ms_law_6 [some F, none, none, none, none] [] = some (.nx (E none none none), s0) := by
    unfold ms_law_6
    dsimp only [E, F]; walk_at "ev"
    rw [h0]
    walk_at "ev"
  have a1 : ms_law_8 (E none none none) s0 = some (.nx (E none none none), s1) := by
    unfold ms_law_8
    dsimp only [E]; walk_at "ev"
    rw [h1]
    rfl
  obtain ⟨o, s2, a2, k⟩ := for_inv (mi := miRng1 (mCons (mC (.int 6)) mNil)) (T := .name 2) (b := mSeq (ms_law_0) (mSeq (ms_law_2) (ms_law_4))) (en := E none none none) (st := s1) (st1 := s1) (s := ⟨rngD 0 6, none⟩) (by
      dsimp only [E]; walk_at "ev"
      rw [if_pos (small_ok (by omega))]
      rfl)
    (fun _ en s => Drum s ∧ ∃ l a b, en = E l a b) (fun _ _ => False) (fun _ _ => False) (fun _ _ _ _ => ok_none) ⟨p1, _, _, _, rfl⟩ (by
      rintro i d en s hd ⟨ps, l, x, y, rfl⟩
      obtain ⟨rfl, hi⟩ := rng_get hd
      obtain ⟨a, s3, e3, ca, ta, fa, p3, l3⟩ := drawn_eq ps false
      obtain ⟨b, s4, e4, cb, tb, fb, p4, l4⟩ := drawn_eq p3 false
      have b0 : ms_law_0 (E (some (.int (0 + i))) x y) s = some (.nx (E (some (.int (0 + i))) (some a.d) (some b.d)), s4) := by
        unfold ms_law_0
        dsimp only [E]; walk_at "ev"
        rw [e3]
        walk_at "ev"
        rw [e4]
        walk_at "ev"
      have b1 : ms_law_2 (E (some (.int (0 + i))) (some a.d) (some b.d)) s4 = some (.nx (E (some (.int (0 + i))) (some a.d) (some b.d)), s4) := by
        unfold ms_law_2
        dsimp only [E]; walk_at "ev"
        rw [asked_eq (fit ca.wf cb.wf fa fb ta tb)]
        rfl
      have b2 : ms_law_4 (E (some (.int (0 + i))) (some a.d) (some b.d)) s4 = some (.nx (E (some (.int (0 + i))) (some a.d) (some b.d)), s4) := by
        have w1 := asked_eq (fit ca.wf wholeC.wf fa (by decide) ta (by decide)) s4
        have w2 := asked_eq (fit ca.wf ca.wf fa fa ta ta) s4
        unfold ms_law_4
        dsimp only [E]; walk_at "ev"
        by_cases c0 : (0 : Int) + i = 0
        · rw [if_pos c0]
          rw [show m__law_asked [a.d, .tup [.tup [], .int 0, .int 1, .tup [.int 0]]] s4 = _ from w1]
          walk_at "ev"
          simp only [c0]
          try rfl
        · rw [if_neg c0]
          walk_at "ev"
          by_cases c1 : (0 : Int) + i = 1
          · rw [if_pos c1, w2]
            rfl
          · rw [if_neg c1]
            try rfl
      exact ⟨E (some (.int (0 + i))) x y, .nx (E (some (.int (0 + i))) (some a.d) (some b.d)), s4, rfl, (mSeq_nx b0).trans ((mSeq_nx b1).trans b2), p4, _, _, _, rfl⟩)
  cases o with
  | nx e =>
    rcases k with ⟨p2, l, x, y, rfl⟩ | k
    · have a2 : ms_law_10 (E none none none) s1 = some (.nx (E l x y), s2) := a2
      obtain ⟨v, s3, e3, v0, v1, p3, l3⟩ := beat_eq p2 (many := 13) (by decide) (by decide)
      obtain ⟨s4, a3⟩ : ∃ s4, ms_law_12 (E l x y) s2 = some (.rt (.bl true), s4) := by
        by_cases c : v = 4
        · obtain ⟨a, s4, e4, ca, ta, fa, p4, l4⟩ := drawn_eq p3 true
          obtain ⟨b, s5, e5, cb, tb, fb, p5, l5⟩ := drawn_eq p4 true
          refine ⟨s5, ?_⟩
          unfold ms_law_12
          dsimp only [E]; walk_at "ev"
          rw [e3]
          walk_at "ev"
          rw [decide_eq_true c]
          walk_at "ev"
          rw [e4]
          walk_at "ev"
          rw [e5]
          walk_at "ev"
          rw [asked_eq (fit ca.wf cb.wf fa fb ta tb)]
          rfl
        · refine ⟨s3, ?_⟩
          unfold ms_law_12
          dsimp only [E]; walk_at "ev"
          rw [e3]
          walk_at "ev"
          rw [decide_eq_false c]
          walk_at "ev"
      obtain ⟨x, hx⟩ := settle_any [] s4 (.bl true)
      exact ⟨x, mDef_new rfl ((mSeq_nx a0).trans ((mSeq_nx a1).trans ((mSeq_nx a2).trans a3))) hx⟩
    · exact k.elim
  | _ => exact k.elim
end K02


namespace K02
open PySem PySem.Spec PyProof.Rows L2 My
/-! ### what the top has written -/
theorem mk_is_regular {K : PySem.W.Frag} {h : Heap} {mg : Str → Option Value} (X : K.In h) (G : h.Ns mainGlobals mg) {f : Addr} {od an : Option Addr} {sl : Array (Option Value)} {oc kV dc pm cd ct : Value} (a : PySem.W.nsIn K mainGlobals "is_regular" = some (some (.ref f))) (l : K.lookup f = some ⟨oc, od, .func (PySem.W.fnOf "is_regular" "is_regular" (defArgs s_is_regular) (defBody s_is_regular) (defScope s_is_regular) .none kV dc pm an cd ct), sl⟩) (c : PySem.W.codeIn K cd "is_regular" = true) (k : PySem.W.keepIn K (.ref f) = true) : ∃ (f : Addr) (fd : FuncData), Fun K "is_regular" "is_regular" s_is_regular f fd ∧ mg "is_regular" = some (.ref f) := ⟨f, _, fun_mk l c k, PySem.W.mg_of X G a⟩
theorem mk_least_turn {K : PySem.W.Frag} {h : Heap} {mg : Str → Option Value} (X : K.In h) (G : h.Ns mainGlobals mg) {f : Addr} {od an : Option Addr} {sl : Array (Option Value)} {oc kV dc pm cd ct : Value} (a : PySem.W.nsIn K mainGlobals "least_turn" = some (some (.ref f))) (l : K.lookup f = some ⟨oc, od, .func (PySem.W.fnOf "least_turn" "least_turn" (defArgs s_least_turn) (defBody s_least_turn) (defScope s_least_turn) .none kV dc pm an cd ct), sl⟩) (c : PySem.W.codeIn K cd "least_turn" = true) (k : PySem.W.keepIn K (.ref f) = true) : ∃ (f : Addr) (fd : FuncData), Fun K "least_turn" "least_turn" s_least_turn f fd ∧ mg "least_turn" = some (.ref f) := ⟨f, _, fun_mk l c k, PySem.W.mg_of X G a⟩
theorem mk_least_first {K : PySem.W.Frag} {h : Heap} {mg : Str → Option Value} (X : K.In h) (G : h.Ns mainGlobals mg) {f : Addr} {od an : Option Addr} {sl : Array (Option Value)} {oc kV dc pm cd ct : Value} (a : PySem.W.nsIn K mainGlobals "least_first" = some (some (.ref f))) (l : K.lookup f = some ⟨oc, od, .func (PySem.W.fnOf "least_first" "least_first" (defArgs s_least_first) (defBody s_least_first) (defScope s_least_first) .none kV dc pm an cd ct), sl⟩) (c : PySem.W.codeIn K cd "least_first" = true) (k : PySem.W.keepIn K (.ref f) = true) : ∃ (f : Addr) (fd : FuncData), Fun K "least_first" "least_first" s_least_first f fd ∧ mg "least_first" = some (.ref f) := ⟨f, _, fun_mk l c k, PySem.W.mg_of X G a⟩
theorem mk_formed {K : PySem.W.Frag} {h : Heap} {mg : Str → Option Value} (X : K.In h) (G : h.Ns mainGlobals mg) {f : Addr} {od an : Option Addr} {sl : Array (Option Value)} {oc kV dc pm cd ct : Value} (a : PySem.W.nsIn K mainGlobals "formed" = some (some (.ref f))) (l : K.lookup f = some ⟨oc, od, .func (PySem.W.fnOf "formed" "formed" (defArgs s_formed) (defBody s_formed) (defScope s_formed) .none kV dc pm an cd ct), sl⟩) (c : PySem.W.codeIn K cd "formed" = true) (k : PySem.W.keepIn K (.ref f) = true) : ∃ (f : Addr) (fd : FuncData), Fun K "formed" "formed" s_formed f fd ∧ mg "formed" = some (.ref f) := ⟨f, _, fun_mk l c k, PySem.W.mg_of X G a⟩
theorem mk_listed_below {K : PySem.W.Frag} {h : Heap} {mg : Str → Option Value} (X : K.In h) (G : h.Ns mainGlobals mg) {f : Addr} {od an : Option Addr} {sl : Array (Option Value)} {oc kV dc pm cd ct : Value} (a : PySem.W.nsIn K mainGlobals "listed_below" = some (some (.ref f))) (l : K.lookup f = some ⟨oc, od, .func (PySem.W.fnOf "listed_below" "listed_below" (defArgs s_listed_below) (defBody s_listed_below) (defScope s_listed_below) .none kV dc pm an cd ct), sl⟩) (c : PySem.W.codeIn K cd "listed_below" = true) (k : PySem.W.keepIn K (.ref f) = true) : ∃ (f : Addr) (fd : FuncData), Fun K "listed_below" "listed_below" s_listed_below f fd ∧ mg "listed_below" = some (.ref f) := ⟨f, _, fun_mk l c k, PySem.W.mg_of X G a⟩
theorem mk_common_turn {K : PySem.W.Frag} {h : Heap} {mg : Str → Option Value} (X : K.In h) (G : h.Ns mainGlobals mg) {f : Addr} {od an : Option Addr} {sl : Array (Option Value)} {oc kV dc pm cd ct : Value} (a : PySem.W.nsIn K mainGlobals "common_turn" = some (some (.ref f))) (l : K.lookup f = some ⟨oc, od, .func (PySem.W.fnOf "common_turn" "common_turn" (defArgs s_common_turn) (defBody s_common_turn) (defScope s_common_turn) .none kV dc pm an cd ct), sl⟩) (c : PySem.W.codeIn K cd "common_turn" = true) (k : PySem.W.keepIn K (.ref f) = true) : ∃ (f : Addr) (fd : FuncData), Fun K "common_turn" "common_turn" s_common_turn f fd ∧ mg "common_turn" = some (.ref f) := ⟨f, _, fun_mk l c k, PySem.W.mg_of X G a⟩
theorem mk_is_both {K : PySem.W.Frag} {h : Heap} {mg : Str → Option Value} (X : K.In h) (G : h.Ns mainGlobals mg) {f : Addr} {od an : Option Addr} {sl : Array (Option Value)} {oc kV dc pm cd ct : Value} (a : PySem.W.nsIn K mainGlobals "is_both" = some (some (.ref f))) (l : K.lookup f = some ⟨oc, od, .func (PySem.W.fnOf "is_both" "is_both" (defArgs s_is_both) (defBody s_is_both) (defScope s_is_both) .none kV dc pm an cd ct), sl⟩) (c : PySem.W.codeIn K cd "is_both" = true) (k : PySem.W.keepIn K (.ref f) = true) : ∃ (f : Addr) (fd : FuncData), Fun K "is_both" "is_both" s_is_both f fd ∧ mg "is_both" = some (.ref f) ∧ PySem.W.nsIn K mainGlobals "is_both" = some (some (.ref f)) := ⟨f, _, fun_mk l c k, PySem.W.mg_of X G a, a⟩
theorem mk_is_either {K : PySem.W.Frag} {h : Heap} {mg : Str → Option Value} (X : K.In h) (G : h.Ns mainGlobals mg) {f : Addr} {od an : Option Addr} {sl : Array (Option Value)} {oc kV dc pm cd ct : Value} (a : PySem.W.nsIn K mainGlobals "is_either" = some (some (.ref f))) (l : K.lookup f = some ⟨oc, od, .func (PySem.W.fnOf "is_either" "is_either" (defArgs s_is_either) (defBody s_is_either) (defScope s_is_either) .none kV dc pm an cd ct), sl⟩) (c : PySem.W.codeIn K cd "is_either" = true) (k : PySem.W.keepIn K (.ref f) = true) : ∃ (f : Addr) (fd : FuncData), Fun K "is_either" "is_either" s_is_either f fd ∧ mg "is_either" = some (.ref f) ∧ PySem.W.nsIn K mainGlobals "is_either" = some (some (.ref f)) := ⟨f, _, fun_mk l c k, PySem.W.mg_of X G a, a⟩
theorem mk_is_here {K : PySem.W.Frag} {h : Heap} {mg : Str → Option Value} (X : K.In h) (G : h.Ns mainGlobals mg) {f : Addr} {od an : Option Addr} {sl : Array (Option Value)} {oc kV dc pm cd ct : Value} (a : PySem.W.nsIn K mainGlobals "is_here" = some (some (.ref f))) (l : K.lookup f = some ⟨oc, od, .func (PySem.W.fnOf "is_here" "is_here" (defArgs s_is_here) (defBody s_is_here) (defScope s_is_here) .none kV dc pm an cd ct), sl⟩) (c : PySem.W.codeIn K cd "is_here" = true) (k : PySem.W.keepIn K (.ref f) = true) : ∃ (f : Addr) (fd : FuncData), Fun K "is_here" "is_here" s_is_here f fd ∧ mg "is_here" = some (.ref f) ∧ PySem.W.nsIn K mainGlobals "is_here" = some (some (.ref f)) := ⟨f, _, fun_mk l c k, PySem.W.mg_of X G a, a⟩
theorem mk_together {K : PySem.W.Frag} {h : Heap} {mg : Str → Option Value} (X : K.In h) (G : h.Ns mainGlobals mg) {f : Addr} {od an : Option Addr} {sl : Array (Option Value)} {oc kV dc pm cd ct : Value} (a : PySem.W.nsIn K mainGlobals "together" = some (some (.ref f))) (l : K.lookup f = some ⟨oc, od, .func (PySem.W.fnOf "together" "together" (defArgs s_together) (defBody s_together) (defScope s_together) .none kV dc pm an cd ct), sl⟩) (c : PySem.W.codeIn K cd "together" = true) (k : PySem.W.keepIn K (.ref f) = true) : ∃ (f : Addr) (fd : FuncData), Fun K "together" "together" s_together f fd ∧ mg "together" = some (.ref f) := ⟨f, _, fun_mk l c k, PySem.W.mg_of X G a⟩
theorem mk_union {K : PySem.W.Frag} {h : Heap} {mg : Str → Option Value} (X : K.In h) (G : h.Ns mainGlobals mg) {f : Addr} {od an : Option Addr} {sl : Array (Option Value)} {oc kV dc pm cd ct : Value} (a : PySem.W.nsIn K mainGlobals "union" = some (some (.ref f))) (l : K.lookup f = some ⟨oc, od, .func (PySem.W.fnOf "union" "union" (defArgs s_union) (defBody s_union) (defScope s_union) .none kV dc pm an cd ct), sl⟩) (c : PySem.W.codeIn K cd "union" = true) (k : PySem.W.keepIn K (.ref f) = true) : ∃ (f : Addr) (fd : FuncData), Fun K "union" "union" s_union f fd ∧ mg "union" = some (.ref f) ∧ PySem.W.nsIn K mainGlobals "union" = some (some (.ref f)) := ⟨f, _, fun_mk l c k, PySem.W.mg_of X G a, a⟩
theorem mk_meet {K : PySem.W.Frag} {h : Heap} {mg : Str → Option Value} (X : K.In h) (G : h.Ns mainGlobals mg) {f : Addr} {od an : Option Addr} {sl : Array (Option Value)} {oc kV dc pm cd ct : Value} (a : PySem.W.nsIn K mainGlobals "meet" = some (some (.ref f))) (l : K.lookup f = some ⟨oc, od, .func (PySem.W.fnOf "meet" "meet" (defArgs s_meet) (defBody s_meet) (defScope s_meet) .none kV dc pm an cd ct), sl⟩) (c : PySem.W.codeIn K cd "meet" = true) (k : PySem.W.keepIn K (.ref f) = true) : ∃ (f : Addr) (fd : FuncData), Fun K "meet" "meet" s_meet f fd ∧ mg "meet" = some (.ref f) ∧ PySem.W.nsIn K mainGlobals "meet" = some (some (.ref f)) := ⟨f, _, fun_mk l c k, PySem.W.mg_of X G a, a⟩
theorem mk_less {K : PySem.W.Frag} {h : Heap} {mg : Str → Option Value} (X : K.In h) (G : h.Ns mainGlobals mg) {f : Addr} {od an : Option Addr} {sl : Array (Option Value)} {oc kV dc pm cd ct : Value} (a : PySem.W.nsIn K mainGlobals "less" = some (some (.ref f))) (l : K.lookup f = some ⟨oc, od, .func (PySem.W.fnOf "less" "less" (defArgs s_less) (defBody s_less) (defScope s_less) .none kV dc pm an cd ct), sl⟩) (c : PySem.W.codeIn K cd "less" = true) (k : PySem.W.keepIn K (.ref f) = true) : ∃ (f : Addr) (fd : FuncData), Fun K "less" "less" s_less f fd ∧ mg "less" = some (.ref f) ∧ PySem.W.nsIn K mainGlobals "less" = some (some (.ref f)) := ⟨f, _, fun_mk l c k, PySem.W.mg_of X G a, a⟩
theorem mk__law_drum {K : PySem.W.Frag} {h : Heap} {mg : Str → Option Value} (X : K.In h) (G : h.Ns mainGlobals mg) {f : Addr} {od an : Option Addr} {sl : Array (Option Value)} {oc kV dc pm cd ct : Value} (a : PySem.W.nsIn K mainGlobals "_law_drum" = some (some (.ref f))) (l : K.lookup f = some ⟨oc, od, .func (PySem.W.fnOf "_law_drum" "_law_drum" (defArgs s__law_drum) (defBody s__law_drum) (defScope s__law_drum) .none kV dc pm an cd ct), sl⟩) (c : PySem.W.codeIn K cd "_law_drum" = true) (k : PySem.W.keepIn K (.ref f) = true) : ∃ (f : Addr) (fd : FuncData), Fun K "_law_drum" "_law_drum" s__law_drum f fd ∧ mg "_law_drum" = some (.ref f) := ⟨f, _, fun_mk l c k, PySem.W.mg_of X G a⟩
theorem mk__law_beat {K : PySem.W.Frag} {h : Heap} {mg : Str → Option Value} (X : K.In h) (G : h.Ns mainGlobals mg) {f : Addr} {od an : Option Addr} {sl : Array (Option Value)} {oc kV dc pm cd ct : Value} (a : PySem.W.nsIn K mainGlobals "_law_beat" = some (some (.ref f))) (l : K.lookup f = some ⟨oc, od, .func (PySem.W.fnOf "_law_beat" "_law_beat" (defArgs s__law_beat) (defBody s__law_beat) (defScope s__law_beat) .none kV dc pm an cd ct), sl⟩) (c : PySem.W.codeIn K cd "_law_beat" = true) (k : PySem.W.keepIn K (.ref f) = true) : ∃ (f : Addr) (fd : FuncData), Fun K "_law_beat" "_law_beat" s__law_beat f fd ∧ mg "_law_beat" = some (.ref f) := ⟨f, _, fun_mk l c k, PySem.W.mg_of X G a⟩
theorem mk__law_same {K : PySem.W.Frag} {h : Heap} {mg : Str → Option Value} (X : K.In h) (G : h.Ns mainGlobals mg) {f : Addr} {od an : Option Addr} {sl : Array (Option Value)} {oc kV dc pm cd ct : Value} (a : PySem.W.nsIn K mainGlobals "_law_same" = some (some (.ref f))) (l : K.lookup f = some ⟨oc, od, .func (PySem.W.fnOf "_law_same" "_law_same" (defArgs s__law_same) (defBody s__law_same) (defScope s__law_same) .none kV dc pm an cd ct), sl⟩) (c : PySem.W.codeIn K cd "_law_same" = true) (k : PySem.W.keepIn K (.ref f) = true) : ∃ (f : Addr) (fd : FuncData), Fun K "_law_same" "_law_same" s__law_same f fd ∧ mg "_law_same" = some (.ref f) := ⟨f, _, fun_mk l c k, PySem.W.mg_of X G a⟩
theorem mk__law_list {K : PySem.W.Frag} {h : Heap} {mg : Str → Option Value} (X : K.In h) (G : h.Ns mainGlobals mg) {f : Addr} {od an : Option Addr} {sl : Array (Option Value)} {oc kV dc pm cd ct : Value} (a : PySem.W.nsIn K mainGlobals "_law_list" = some (some (.ref f))) (l : K.lookup f = some ⟨oc, od, .func (PySem.W.fnOf "_law_list" "_law_list" (defArgs s__law_list) (defBody s__law_list) (defScope s__law_list) .none kV dc pm an cd ct), sl⟩) (c : PySem.W.codeIn K cd "_law_list" = true) (k : PySem.W.keepIn K (.ref f) = true) : ∃ (f : Addr) (fd : FuncData), Fun K "_law_list" "_law_list" s__law_list f fd ∧ mg "_law_list" = some (.ref f) := ⟨f, _, fun_mk l c k, PySem.W.mg_of X G a⟩
theorem mk__law_form_of {K : PySem.W.Frag} {h : Heap} {mg : Str → Option Value} (X : K.In h) (G : h.Ns mainGlobals mg) {f : Addr} {od an : Option Addr} {sl : Array (Option Value)} {oc kV dc pm cd ct : Value} (a : PySem.W.nsIn K mainGlobals "_law_form_of" = some (some (.ref f))) (l : K.lookup f = some ⟨oc, od, .func (PySem.W.fnOf "_law_form_of" "_law_form_of" (defArgs s__law_form_of) (defBody s__law_form_of) (defScope s__law_form_of) .none kV dc pm an cd ct), sl⟩) (c : PySem.W.codeIn K cd "_law_form_of" = true) (k : PySem.W.keepIn K (.ref f) = true) : ∃ (f : Addr) (fd : FuncData), Fun K "_law_form_of" "_law_form_of" s__law_form_of f fd ∧ mg "_law_form_of" = some (.ref f) := ⟨f, _, fun_mk l c k, PySem.W.mg_of X G a⟩
theorem mk__law_common {K : PySem.W.Frag} {h : Heap} {mg : Str → Option Value} (X : K.In h) (G : h.Ns mainGlobals mg) {f : Addr} {od an : Option Addr} {sl : Array (Option Value)} {oc kV dc pm cd ct : Value} (a : PySem.W.nsIn K mainGlobals "_law_common" = some (some (.ref f))) (l : K.lookup f = some ⟨oc, od, .func (PySem.W.fnOf "_law_common" "_law_common" (defArgs s__law_common) (defBody s__law_common) (defScope s__law_common) .none kV dc pm an cd ct), sl⟩) (c : PySem.W.codeIn K cd "_law_common" = true) (k : PySem.W.keepIn K (.ref f) = true) : ∃ (f : Addr) (fd : FuncData), Fun K "_law_common" "_law_common" s__law_common f fd ∧ mg "_law_common" = some (.ref f) := ⟨f, _, fun_mk l c k, PySem.W.mg_of X G a⟩
theorem mk__law_drawn {K : PySem.W.Frag} {h : Heap} {mg : Str → Option Value} (X : K.In h) (G : h.Ns mainGlobals mg) {f : Addr} {od an : Option Addr} {sl : Array (Option Value)} {oc kV dc pm cd ct : Value} (a : PySem.W.nsIn K mainGlobals "_law_drawn" = some (some (.ref f))) (l : K.lookup f = some ⟨oc, od, .func (PySem.W.fnOf "_law_drawn" "_law_drawn" (defArgs s__law_drawn) (defBody s__law_drawn) (defScope s__law_drawn) .none kV dc pm an cd ct), sl⟩) (c : PySem.W.codeIn K cd "_law_drawn" = true) (k : PySem.W.keepIn K (.ref f) = true) : ∃ (f : Addr) (fd : FuncData), Fun K "_law_drawn" "_law_drawn" s__law_drawn f fd ∧ mg "_law_drawn" = some (.ref f) := ⟨f, _, fun_mk l c k, PySem.W.mg_of X G a⟩
theorem mk__law_asked {K : PySem.W.Frag} {h : Heap} {mg : Str → Option Value} (X : K.In h) (G : h.Ns mainGlobals mg) {f : Addr} {od an : Option Addr} {sl : Array (Option Value)} {oc kV dc pm cd ct : Value} (a : PySem.W.nsIn K mainGlobals "_law_asked" = some (some (.ref f))) (l : K.lookup f = some ⟨oc, od, .func (PySem.W.fnOf "_law_asked" "_law_asked" (defArgs s__law_asked) (defBody s__law_asked) (defScope s__law_asked) .none kV dc pm an cd ct), sl⟩) (c : PySem.W.codeIn K cd "_law_asked" = true) (k : PySem.W.keepIn K (.ref f) = true) : ∃ (f : Addr) (fd : FuncData), Fun K "_law_asked" "_law_asked" s__law_asked f fd ∧ mg "_law_asked" = some (.ref f) := ⟨f, _, fun_mk l c k, PySem.W.mg_of X G a⟩
theorem mk__law_hand {K : PySem.W.Frag} {h : Heap} {mg : Str → Option Value} (X : K.In h) (G : h.Ns mainGlobals mg) {f : Addr} {od an : Option Addr} {sl : Array (Option Value)} {oc kV dc pm cd ct : Value} (a : PySem.W.nsIn K mainGlobals "_law_hand" = some (some (.ref f))) (l : K.lookup f = some ⟨oc, od, .func (PySem.W.fnOf "_law_hand" "_law_hand" (defArgs s__law_hand) (defBody s__law_hand) (defScope s__law_hand) .none kV dc pm an cd ct), sl⟩) (c : PySem.W.codeIn K cd "_law_hand" = true) (k : PySem.W.keepIn K (.ref f) = true) : ∃ (f : Addr) (fd : FuncData), Fun K "_law_hand" "_law_hand" s__law_hand f fd ∧ mg "_law_hand" = some (.ref f) := ⟨f, _, fun_mk l c k, PySem.W.mg_of X G a⟩
theorem mk_law {K : PySem.W.Frag} {h : Heap} {mg : Str → Option Value} (X : K.In h) (G : h.Ns mainGlobals mg) {f : Addr} {od an : Option Addr} {sl : Array (Option Value)} {oc kV dc pm cd ct : Value} (a : PySem.W.nsIn K mainGlobals "law" = some (some (.ref f))) (l : K.lookup f = some ⟨oc, od, .func (PySem.W.fnOf "law" "law" (defArgs s_law) (defBody s_law) (defScope s_law) .none kV dc pm an cd ct), sl⟩) (c : PySem.W.codeIn K cd "law" = true) (k : PySem.W.keepIn K (.ref f) = true) : ∃ (f : Addr) (fd : FuncData), Fun K "law" "law" s_law f fd ∧ mg "law" = some (.ref f) := ⟨f, _, fun_mk l c k, PySem.W.mg_of X G a⟩
theorem facts_mk {K : PySem.W.Frag} {mg : Str → Option Value} (e_is_regular : ∃ (f : Addr) (fd : FuncData), Fun K "is_regular" "is_regular" s_is_regular f fd ∧ mg "is_regular" = some (.ref f)) (e_least_turn : ∃ (f : Addr) (fd : FuncData), Fun K "least_turn" "least_turn" s_least_turn f fd ∧ mg "least_turn" = some (.ref f)) (e_least_first : ∃ (f : Addr) (fd : FuncData), Fun K "least_first" "least_first" s_least_first f fd ∧ mg "least_first" = some (.ref f)) (e_formed : ∃ (f : Addr) (fd : FuncData), Fun K "formed" "formed" s_formed f fd ∧ mg "formed" = some (.ref f)) (e_listed_below : ∃ (f : Addr) (fd : FuncData), Fun K "listed_below" "listed_below" s_listed_below f fd ∧ mg "listed_below" = some (.ref f)) (e_common_turn : ∃ (f : Addr) (fd : FuncData), Fun K "common_turn" "common_turn" s_common_turn f fd ∧ mg "common_turn" = some (.ref f)) (e_is_both : ∃ (f : Addr) (fd : FuncData), Fun K "is_both" "is_both" s_is_both f fd ∧ mg "is_both" = some (.ref f) ∧ PySem.W.nsIn K mainGlobals "is_both" = some (some (.ref f))) (e_is_either : ∃ (f : Addr) (fd : FuncData), Fun K "is_either" "is_either" s_is_either f fd ∧ mg "is_either" = some (.ref f) ∧ PySem.W.nsIn K mainGlobals "is_either" = some (some (.ref f))) (e_is_here : ∃ (f : Addr) (fd : FuncData), Fun K "is_here" "is_here" s_is_here f fd ∧ mg "is_here" = some (.ref f) ∧ PySem.W.nsIn K mainGlobals "is_here" = some (some (.ref f))) (e_together : ∃ (f : Addr) (fd : FuncData), Fun K "together" "together" s_together f fd ∧ mg "together" = some (.ref f)) (e_union : ∃ (f : Addr) (fd : FuncData), Fun K "union" "union" s_union f fd ∧ mg "union" = some (.ref f) ∧ PySem.W.nsIn K mainGlobals "union" = some (some (.ref f))) (e_meet : ∃ (f : Addr) (fd : FuncData), Fun K "meet" "meet" s_meet f fd ∧ mg "meet" = some (.ref f) ∧ PySem.W.nsIn K mainGlobals "meet" = some (some (.ref f))) (e_less : ∃ (f : Addr) (fd : FuncData), Fun K "less" "less" s_less f fd ∧ mg "less" = some (.ref f) ∧ PySem.W.nsIn K mainGlobals "less" = some (some (.ref f))) (e__law_drum : ∃ (f : Addr) (fd : FuncData), Fun K "_law_drum" "_law_drum" s__law_drum f fd ∧ mg "_law_drum" = some (.ref f)) (e__law_beat : ∃ (f : Addr) (fd : FuncData), Fun K "_law_beat" "_law_beat" s__law_beat f fd ∧ mg "_law_beat" = some (.ref f)) (e__law_same : ∃ (f : Addr) (fd : FuncData), Fun K "_law_same" "_law_same" s__law_same f fd ∧ mg "_law_same" = some (.ref f)) (e__law_list : ∃ (f : Addr) (fd : FuncData), Fun K "_law_list" "_law_list" s__law_list f fd ∧ mg "_law_list" = some (.ref f)) (e__law_form_of : ∃ (f : Addr) (fd : FuncData), Fun K "_law_form_of" "_law_form_of" s__law_form_of f fd ∧ mg "_law_form_of" = some (.ref f)) (e__law_common : ∃ (f : Addr) (fd : FuncData), Fun K "_law_common" "_law_common" s__law_common f fd ∧ mg "_law_common" = some (.ref f)) (e__law_drawn : ∃ (f : Addr) (fd : FuncData), Fun K "_law_drawn" "_law_drawn" s__law_drawn f fd ∧ mg "_law_drawn" = some (.ref f)) (e__law_asked : ∃ (f : Addr) (fd : FuncData), Fun K "_law_asked" "_law_asked" s__law_asked f fd ∧ mg "_law_asked" = some (.ref f)) (e__law_hand : ∃ (f : Addr) (fd : FuncData), Fun K "_law_hand" "_law_hand" s__law_hand f fd ∧ mg "_law_hand" = some (.ref f)) (e_law : ∃ (f : Addr) (fd : FuncData), Fun K "law" "law" s_law f fd ∧ mg "law" = some (.ref f))  (z_set : mg "set" = none) (z_all : mg "all" = none) (z_len : mg "len" = none) (z_range : mg "range" = none) (z_tuple : mg "tuple" = none) (z_sorted : mg "sorted" = none) (z_max : mg "max" = none) (z_abs : mg "abs" = none) (z_int : mg "int" = none) (z_isinstance : mg "isinstance" = none) (z_bool : mg "bool" = none) (i_gcd : mg "gcd" = some (.builtin "math.gcd")) : Nonempty (Facts K mg) := by
  obtain ⟨a_is_regular, d_is_regular, F_is_regular, g_is_regular⟩ := e_is_regular
  obtain ⟨a_least_turn, d_least_turn, F_least_turn, g_least_turn⟩ := e_least_turn
  obtain ⟨a_least_first, d_least_first, F_least_first, g_least_first⟩ := e_least_first
  obtain ⟨a_formed, d_formed, F_formed, g_formed⟩ := e_formed
  obtain ⟨a_listed_below, d_listed_below, F_listed_below, g_listed_below⟩ := e_listed_below
  obtain ⟨a_common_turn, d_common_turn, F_common_turn, g_common_turn⟩ := e_common_turn
  obtain ⟨a_is_both, d_is_both, F_is_both, g_is_both, n_is_both⟩ := e_is_both
  obtain ⟨a_is_either, d_is_either, F_is_either, g_is_either, n_is_either⟩ := e_is_either
  obtain ⟨a_is_here, d_is_here, F_is_here, g_is_here, n_is_here⟩ := e_is_here
  obtain ⟨a_together, d_together, F_together, g_together⟩ := e_together
  obtain ⟨a_union, d_union, F_union, g_union, n_union⟩ := e_union
  obtain ⟨a_meet, d_meet, F_meet, g_meet, n_meet⟩ := e_meet
  obtain ⟨a_less, d_less, F_less, g_less, n_less⟩ := e_less
  obtain ⟨a__law_drum, d__law_drum, F__law_drum, g__law_drum⟩ := e__law_drum
  obtain ⟨a__law_beat, d__law_beat, F__law_beat, g__law_beat⟩ := e__law_beat
  obtain ⟨a__law_same, d__law_same, F__law_same, g__law_same⟩ := e__law_same
  obtain ⟨a__law_list, d__law_list, F__law_list, g__law_list⟩ := e__law_list
  obtain ⟨a__law_form_of, d__law_form_of, F__law_form_of, g__law_form_of⟩ := e__law_form_of
  obtain ⟨a__law_common, d__law_common, F__law_common, g__law_common⟩ := e__law_common
  obtain ⟨a__law_drawn, d__law_drawn, F__law_drawn, g__law_drawn⟩ := e__law_drawn
  obtain ⟨a__law_asked, d__law_asked, F__law_asked, g__law_asked⟩ := e__law_asked
  obtain ⟨a__law_hand, d__law_hand, F__law_hand, g__law_hand⟩ := e__law_hand
  obtain ⟨a_law, d_law, F_law, g_law⟩ := e_law
  exact ⟨⟨a_is_regular, d_is_regular, F_is_regular, g_is_regular, a_least_turn, d_least_turn, F_least_turn, g_least_turn, a_least_first, d_least_first, F_least_first, g_least_first, a_formed, d_formed, F_formed, g_formed, a_listed_below, d_listed_below, F_listed_below, g_listed_below, a_common_turn, d_common_turn, F_common_turn, g_common_turn, a_is_both, d_is_both, F_is_both, g_is_both, n_is_both, a_is_either, d_is_either, F_is_either, g_is_either, n_is_either, a_is_here, d_is_here, F_is_here, g_is_here, n_is_here, a_together, d_together, F_together, g_together, a_union, d_union, F_union, g_union, n_union, a_meet, d_meet, F_meet, g_meet, n_meet, a_less, d_less, F_less, g_less, n_less, a__law_drum, d__law_drum, F__law_drum, g__law_drum, a__law_beat, d__law_beat, F__law_beat, g__law_beat, a__law_same, d__law_same, F__law_same, g__law_same, a__law_list, d__law_list, F__law_list, g__law_list, a__law_form_of, d__law_form_of, F__law_form_of, g__law_form_of, a__law_common, d__law_common, F__law_common, g__law_common, a__law_drawn, d__law_drawn, F__law_drawn, g__law_drawn, a__law_asked, d__law_asked, F__law_asked, g__law_asked, a__law_hand, d__law_hand, F__law_hand, g__law_hand, a_law, d_law, F_law, g_law, z_set, z_all, z_len, z_range, z_tuple, z_sorted, z_max, z_abs, z_int, z_isinstance, z_bool, i_gcd⟩⟩
theorem law_fd {P : Program} {w : World} {K : PySem.W.Frag} {mg : Str → Option Value} {fa : Addr} (hfa : mg "law" = some (.ref fa)) (Fc : Nonempty (Facts K mg)) : ∃ fd : FuncData, (∀ (s : Shared) (v : Value), BindsTo s fd ⟨[v], []⟩ [("script", v)]) ∧ ∀ base : Heap, K.In base → base.Ns mainGlobals mg → FnOk P w K mg base CX0 7 fa fd ["script"] (spM ⟨K, P, w⟩ m_law) := by
  obtain ⟨Fc⟩ := Fc
  have e : fa = Fc.a_law := by have h := hfa.symm.trans Fc.g_law; cases h; rfl
  subst e
  refine ⟨Fc.d_law, fun s v => ?_, fun base _ _ => ok_law Fc⟩
  obtain ⟨oc, od, kV, doc, pm, an, cdv, ct, osl, e, lk, hcd⟩ := Fc.F_law.ex
  rw [e]
  exact .of_eq rfl
theorem law_sp {C : Cy} (H : Hp) (a : Addr) (ns : List Int) (hn : ns.length ≤ 63) (hS : SqL C.K H a (ns.map V.int)) : spM C m_law [.ref a] H (fun v _ => v = .bl true) fun _ _ _ => False := by
  obtain ⟨st, h⟩ := law_true ns hn
  exact ⟨⟨H, []⟩, [], [.fro (ns.map D.int)], [], .bl true, st, ⟨.ref a, [], rfl, ⟨a, _, rfl, hS, Reps.of_ints ns⟩, rfl⟩, ⟨Same.refl _, List.nodup_nil, rfl, fun a h => (List.not_mem_nil h).elim, fun n a o h => by simp at h, fun q h => (List.not_mem_nil h).elim⟩, h, fun v H0 as H1 _ _ r => r⟩
end K02
open PySem PySem.W PyProof.Rows
set_option maxHeartbeats 0 in
theorem PySem.Challenge.cw_moneyheld_k02_union_meet_less_holds : PySem.Challenge.rw_moneyheld_k02_union_meet_less.Holds := by
  w_on; o_law; k_head; (case hw => w_witness2)
  k_fill
  refine L2.walk_of (l := PySem.Challenge.rw_moneyheld_k02_union_meet_less) (n := 63) (k := 7) (x := "script") (CX := fun _ => L2.CX0) (sp := fun w => My.spM ⟨_, PySem.Challenge.rw_moneyheld_k02_union_meet_less.prog, w⟩ K02.m_law) rfl (by decide) rfl ⟨rfl, by decide, by decide⟩ (fun w h Y => PySem.W.kIn_of Y) ?F (fun _ H a ns hl _ hS => K02.law_sp H a ns hl hS) (fun _ _ _ _ _ h => h)
  case F =>
    intro w mg fa h KX G hmg
    refine' K02.law_fd hmg (K02.facts_mk ?e_is_regular ?e_least_turn ?e_least_first ?e_formed ?e_listed_below ?e_common_turn ?e_is_both ?e_is_either ?e_is_here ?e_together ?e_union ?e_meet ?e_less ?e__law_drum ?e__law_beat ?e__law_same ?e__law_list ?e__law_form_of ?e__law_common ?e__law_drawn ?e__law_asked ?e__law_hand ?e_law ?z_set ?z_all ?z_len ?z_range ?z_tuple ?z_sorted ?z_max ?z_abs ?z_int ?z_isinstance ?z_bool ?i_gcd)
    (case e_is_regular => refine' K02.mk_is_regular KX G ?a ?l ?c ?k; (case a => k_is); (case l => k_is); (case c => k_is); (case k => k_is))
    (case e_least_turn => refine' K02.mk_least_turn KX G ?a ?l ?c ?k; (case a => k_is); (case l => k_is); (case c => k_is); (case k => k_is))
    (case e_least_first => refine' K02.mk_least_first KX G ?a ?l ?c ?k; (case a => k_is); (case l => k_is); (case c => k_is); (case k => k_is))
    (case e_formed => refine' K02.mk_formed KX G ?a ?l ?c ?k; (case a => k_is); (case l => k_is); (case c => k_is); (case k => k_is))
    (case e_listed_below => refine' K02.mk_listed_below KX G ?a ?l ?c ?k; (case a => k_is); (case l => k_is); (case c => k_is); (case k => k_is))
    (case e_common_turn => refine' K02.mk_common_turn KX G ?a ?l ?c ?k; (case a => k_is); (case l => k_is); (case c => k_is); (case k => k_is))
    (case e_is_both => refine' K02.mk_is_both KX G ?a ?l ?c ?k; (case a => k_is); (case l => k_is); (case c => k_is); (case k => k_is))
    (case e_is_either => refine' K02.mk_is_either KX G ?a ?l ?c ?k; (case a => k_is); (case l => k_is); (case c => k_is); (case k => k_is))
    (case e_is_here => refine' K02.mk_is_here KX G ?a ?l ?c ?k; (case a => k_is); (case l => k_is); (case c => k_is); (case k => k_is))
    (case e_together => refine' K02.mk_together KX G ?a ?l ?c ?k; (case a => k_is); (case l => k_is); (case c => k_is); (case k => k_is))
    (case e_union => refine' K02.mk_union KX G ?a ?l ?c ?k; (case a => k_is); (case l => k_is); (case c => k_is); (case k => k_is))
    (case e_meet => refine' K02.mk_meet KX G ?a ?l ?c ?k; (case a => k_is); (case l => k_is); (case c => k_is); (case k => k_is))
    (case e_less => refine' K02.mk_less KX G ?a ?l ?c ?k; (case a => k_is); (case l => k_is); (case c => k_is); (case k => k_is))
    (case e__law_drum => refine' K02.mk__law_drum KX G ?a ?l ?c ?k; (case a => k_is); (case l => k_is); (case c => k_is); (case k => k_is))
    (case e__law_beat => refine' K02.mk__law_beat KX G ?a ?l ?c ?k; (case a => k_is); (case l => k_is); (case c => k_is); (case k => k_is))
    (case e__law_same => refine' K02.mk__law_same KX G ?a ?l ?c ?k; (case a => k_is); (case l => k_is); (case c => k_is); (case k => k_is))
    (case e__law_list => refine' K02.mk__law_list KX G ?a ?l ?c ?k; (case a => k_is); (case l => k_is); (case c => k_is); (case k => k_is))
    (case e__law_form_of => refine' K02.mk__law_form_of KX G ?a ?l ?c ?k; (case a => k_is); (case l => k_is); (case c => k_is); (case k => k_is))
    (case e__law_common => refine' K02.mk__law_common KX G ?a ?l ?c ?k; (case a => k_is); (case l => k_is); (case c => k_is); (case k => k_is))
    (case e__law_drawn => refine' K02.mk__law_drawn KX G ?a ?l ?c ?k; (case a => k_is); (case l => k_is); (case c => k_is); (case k => k_is))
    (case e__law_asked => refine' K02.mk__law_asked KX G ?a ?l ?c ?k; (case a => k_is); (case l => k_is); (case c => k_is); (case k => k_is))
    (case e__law_hand => refine' K02.mk__law_hand KX G ?a ?l ?c ?k; (case a => k_is); (case l => k_is); (case c => k_is); (case k => k_is))
    (case e_law => refine' K02.mk_law KX G ?a ?l ?c ?k; (case a => k_is); (case l => k_is); (case c => k_is); (case k => k_is))
    (case z_set => refine' PySem.W.mg_none_of KX G ?_; k_is)
    (case z_all => refine' PySem.W.mg_none_of KX G ?_; k_is)
    (case z_len => refine' PySem.W.mg_none_of KX G ?_; k_is)
    (case z_range => refine' PySem.W.mg_none_of KX G ?_; k_is)
    (case z_tuple => refine' PySem.W.mg_none_of KX G ?_; k_is)
    (case z_sorted => refine' PySem.W.mg_none_of KX G ?_; k_is)
    (case z_max => refine' PySem.W.mg_none_of KX G ?_; k_is)
    (case z_abs => refine' PySem.W.mg_none_of KX G ?_; k_is)
    (case z_int => refine' PySem.W.mg_none_of KX G ?_; k_is)
    (case z_isinstance => refine' PySem.W.mg_none_of KX G ?_; k_is)
    (case z_bool => refine' PySem.W.mg_none_of KX G ?_; k_is)
    (case i_gcd => refine' PySem.W.mg_of KX G ?_; k_is)

