import PyProof.Rows.All
import HandS.ForMost
import HandS.IsInst
import HandS.SortInts
import HandS.Wide
import HandS.WideBits
import HandS.TupAny
import HandS.Defaults
import HandS.Gcd
import HandS.Strs
import HandS.SetFor
import HandS.Style
import HandS.Dict
import HandS.More
import HandS.Iter
import PyProof.Rows.SortShellAny
import HandS.CallLocal
import HandS.Flow
import HandS.Conv
import HandS.Zip
import HandS.Deep
import KE.SortData
import HandS.ExcInit
import HandS.ExcField
import HandS.Nested
import HandS.TryMany
import KE.KExcSuper
import KE.KSuper
import HandS.WordsExc
import HandS.CallSlots
import KE.RegKSuper
import HandS.DictTup
import KE.KDictWalk
import KE.KDictList
import KE.KDictCopyH
import HandS.Text
import HandS.ExcIs
import PyProof.Rows.EnumRows
import PySem.Challenge.RW_moneyheld_k21_fairs

set_option Elab.async false
set_option linter.all false
set_option maxRecDepth 100000
set_option maxHeartbeats 4000000
/-! A layer of our own over HandS: expressions and statements as plain functions on data (D), an environment of slots and a store of mutable objects. -/
namespace My
open PySem PySem.Spec PyProof.Rows L2

/-- what a value is, without the heap -/
inductive D where
  | non | bl (b : Bool) | int (i : Int) | str (x : Str) | ty (n : String) | adr (a : Addr) | tup (ds : List D) | lst (ds : List D) | fro (ds : List D) | loc (n : Nat) | fdk (n : Nat) (ks : List Key) (ds : List D) | set (ns : List Int) | fn (x : Str)

/-- a mutable object -/
inductive SO where
  | dead | lst (ds : List D) | dK (kvs : List (Key × D)) | dT (kvs : List (List Key × D))

structure Cy where
  K : PySem.W.Frag
  P : Program
  w : World
abbrev cyOf (X : Cx) : Cy := ⟨X.K, X.prog, X.w⟩
/-- the part of the heap that stays, and objects held aside (g: they stay too, and are not looked at) -/
structure Hb where
  h : Hp
  g : List (Addr × List V)

section
variable (C : Cy) (H : Hb) (as : List Addr)
mutual
def Rep : D → V → Prop
  | .non, v => v = .non
  | .bl b, v => v = .bl b
  | .int i, v => v = .int i
  | .str x, v => v = .str x
  | .ty n, v => v = .ty n
  | .adr a, v => v = .ref a
  | .tup ds, v => ∃ a vs, v = .ref a ∧ SqT C.K H.h a vs ∧ Reps ds vs
  | .lst ds, v => ∃ a vs, v = .ref a ∧ H.h a = some (.lst vs) ∧ Reps ds vs
  | .fro ds, v => ∃ a vs, v = .ref a ∧ SqL C.K H.h a vs ∧ Reps ds vs
  | .loc n, v => ∃ a, as[n]? = some a ∧ v = .ref a
  | .fdk n ks ds, v => ∃ a ob vs, as[n]? = some a ∧ v = .ref a ∧ H.h a = some (.frz ob (.dK (ks.zip vs))) ∧ ks.length = ds.length ∧ Reps ds vs
  | .set ns, v => ∃ a S n, v = .ref a ∧ H.h a = some (SetO C.w a S n) ∧ (∀ k, S k = decide (k ∈ ns)) ∧ n ≤ sizeLine
  | .fn x, v => ∃ a, v = .ref a ∧ PySem.W.nsIn C.K mainGlobals x = some (some (.ref a))
def Reps : List D → List V → Prop
  | [], vs => vs = []
  | d :: ds, vs => ∃ v r, vs = v :: r ∧ Rep d v ∧ Reps ds r
end
def RepKV {κ : Type} : List (κ × D) → List (κ × V) → Prop
  | [], vs => vs = []
  | (k, d) :: ds, vs => ∃ v r, vs = (k, v) :: r ∧ Rep C H as d v ∧ RepKV ds r
def RepO : SO → HO → Prop
  | .dead, _ => True
  | .lst ds, o => ∃ vs, o = .lst vs ∧ Reps C H as ds vs
  | .dK kvs, o => ∃ vs, o = .dK vs ∧ RepKV C H as kvs vs
  | .dT kvs, o => ∃ vs, o = .dT vs ∧ RepKV C H as kvs vs
end

structure Le (H : Hb) (as : List Addr) (H' : Hb) (as' : List Addr) : Prop where
  same : Same H.h H'.h
  gh : H'.g = H.g
  pre : as <+: as'
theorem Le.refl {H : Hb} {as : List Addr} : Le H as H as := ⟨Same.refl H.h, rfl, List.prefix_rfl⟩
theorem Le.trans {H H1 H2 : Hb} {as as1 as2 : List Addr} (a : Le H as H1 as1) (b : Le H1 as1 H2 as2) : Le H as H2 as2 := ⟨a.same.trans b.same, b.gh.trans a.gh, a.pre.trans b.pre⟩

theorem same_seqT {K : PySem.W.Frag} {H H' : Hp} {a : Addr} {xs : List V} (e : Same H H') (h : SqT K H a xs) : SqT K H' a xs := by
  rcases h with (h | ⟨o, h⟩) | h
  · exact .inl (.inl (e _ _ h))
  · exact .inl (.inr ⟨o, e _ _ h⟩)
  · exact .inr h
theorem pre_get {as as' : List Addr} (h : as <+: as') {n : Nat} {a : Addr} (e : as[n]? = some a) : as'[n]? = some a := by
  obtain ⟨t, rfl⟩ := h
  rw [List.getElem?_append_left (List.getElem?_eq_some_iff.mp e).1]
  exact e
section
variable {C : Cy} {H H' : Hb} {as as' : List Addr}
mutual
theorem Rep.mono (l : Le H as H' as') : ∀ {d : D} {v : V}, Rep C H as d v → Rep C H' as' d v
  | .non, _, h => h
  | .bl _, _, h => h
  | .int _, _, h => h
  | .str _, _, h => h
  | .ty _, _, h => h
  | .adr _, _, h => h
  | .tup ds, _, h => by
    obtain ⟨a, vs, e, hs, hr⟩ := h
    exact ⟨a, vs, e, same_seqT l.same hs, Reps.mono l hr⟩
  | .lst ds, _, h => by
    obtain ⟨a, vs, e, hs, hr⟩ := h
    exact ⟨a, vs, e, l.same _ _ hs, Reps.mono l hr⟩
  | .fro ds, _, h => by
    obtain ⟨a, vs, e, hs, hr⟩ := h
    exact ⟨a, vs, e, l.same.seq hs, Reps.mono l hr⟩
  | .loc n, _, h => by
    obtain ⟨a, ha, e⟩ := h
    exact ⟨a, pre_get l.pre ha, e⟩
  | .fdk n ks ds, _, h => by
    obtain ⟨a, ob, vs, ha, e, hs, hl, hr⟩ := h
    exact ⟨a, ob, vs, pre_get l.pre ha, e, l.same _ _ hs, hl, Reps.mono l hr⟩
  | .set ns, _, h => by
    obtain ⟨a, S, n, e, hs, hr⟩ := h
    exact ⟨a, S, n, e, l.same _ _ hs, hr⟩
  | .fn _, _, h => h
theorem Reps.mono (l : Le H as H' as') : ∀ {ds : List D} {vs : List V}, Reps C H as ds vs → Reps C H' as' ds vs
  | [], _, h => h
  | d :: ds, _, h => by
    obtain ⟨v, r, e, h1, h2⟩ := h
    exact ⟨v, r, e, Rep.mono l h1, Reps.mono l h2⟩
end
theorem RepKV.mono {κ : Type} (l : Le H as H' as') : ∀ {ds : List (κ × D)} {vs : List (κ × V)}, RepKV C H as ds vs → RepKV C H' as' ds vs
  | [], _, h => h
  | (k, d) :: ds, _, h => by
    obtain ⟨v, r, e, h1, h2⟩ := h
    exact ⟨v, r, e, Rep.mono l h1, RepKV.mono l h2⟩
theorem RepO.mono (l : Le H as H' as') : ∀ {o : SO} {u : HO}, RepO C H as o u → RepO C H' as' o u
  | .dead, _, h => h
  | .lst _, _, ⟨vs, e, h⟩ => ⟨vs, e, h.mono l⟩
  | .dK _, _, ⟨vs, e, h⟩ => ⟨vs, e, h.mono l⟩
  | .dT _, _, ⟨vs, e, h⟩ => ⟨vs, e, h.mono l⟩
theorem Reps.length : ∀ {ds : List D} {vs : List V}, Reps C H as ds vs → ds.length = vs.length
  | [], _, h => by
    have h : _ = [] := h
    subst h
    rfl
  | d :: ds, _, h => by
    obtain ⟨v, r, rfl, _, h2⟩ := h
    simp [Reps.length h2]
theorem Reps.get : ∀ {ds : List D} {vs : List V} {i : Nat} {d : D}, Reps C H as ds vs → ds[i]? = some d → ∃ v, vs[i]? = some v ∧ Rep C H as d v
  | [], _, _, _, _, e => by simp at e
  | d :: ds, _, 0, _, h, e => by
    obtain ⟨v, r, rfl, h1, h2⟩ := h
    simp at e
    subst e
    exact ⟨v, rfl, h1⟩
  | d :: ds, _, i + 1, _, h, e => by
    obtain ⟨v, r, rfl, h1, h2⟩ := h
    exact Reps.get (i := i) h2 (by simpa using e)
theorem Reps.getV : ∀ {ds : List D} {vs : List V} {i : Nat} {v : V}, Reps C H as ds vs → vs[i]? = some v → ∃ d, ds[i]? = some d ∧ Rep C H as d v
  | [], vs, i, v, h, e => by
    have h : vs = [] := h
    subst h
    simp at e
  | d :: ds, _, 0, _, h, e => by
    obtain ⟨v, r, rfl, h1, h2⟩ := h
    simp at e
    subst e
    exact ⟨d, rfl, h1⟩
  | d :: ds, _, i + 1, _, h, e => by
    obtain ⟨v, r, rfl, h1, h2⟩ := h
    exact Reps.getV (i := i) h2 (by simpa using e)
theorem Reps.append : ∀ {ds es : List D} {vs us : List V}, Reps C H as ds vs → Reps C H as es us → Reps C H as (ds ++ es) (vs ++ us)
  | [], _, _, _, h, k => by
    have h : _ = [] := h
    subst h
    exact k
  | d :: ds, _, _, _, h, k => by
    obtain ⟨v, r, rfl, h1, h2⟩ := h
    exact ⟨v, r ++ _, rfl, h1, Reps.append h2 k⟩
theorem Reps.one {d : D} {v : V} (h : Rep C H as d v) : Reps C H as [d] [v] := ⟨v, [], rfl, h, rfl⟩
theorem Reps.take : ∀ {ds : List D} {vs : List V} (n : Nat), Reps C H as ds vs → Reps C H as (ds.take n) (vs.take n)
  | _, _, 0, _ => by simp [Reps]
  | [], _, n + 1, h => by
    have h : _ = [] := h
    subst h
    simp [Reps]
  | d :: ds, _, n + 1, h => by
    obtain ⟨v, r, rfl, h1, h2⟩ := h
    exact ⟨v, r.take n, rfl, h1, Reps.take n h2⟩
theorem Reps.drop : ∀ {ds : List D} {vs : List V} (n : Nat), Reps C H as ds vs → Reps C H as (ds.drop n) (vs.drop n)
  | _, _, 0, h => h
  | [], _, n + 1, h => by
    have h : _ = [] := h
    subst h
    simp [Reps]
  | d :: ds, _, n + 1, h => by
    obtain ⟨v, r, rfl, h1, h2⟩ := h
    exact Reps.drop n h2
theorem Reps.set {d : D} {v : V} (k : Rep C H as d v) : ∀ {ds : List D} {vs : List V} (n : Nat), Reps C H as ds vs → Reps C H as (ds.set n d) (vs.set n v)
  | [], _, n, h => by
    have h : _ = [] := h
    subst h
    simp [Reps]
  | e :: ds, _, 0, h => by
    obtain ⟨v', r, rfl, h1, h2⟩ := h
    exact ⟨v, r, rfl, k, h2⟩
  | e :: ds, _, n + 1, h => by
    obtain ⟨v', r, rfl, h1, h2⟩ := h
    exact ⟨v', _, rfl, h1, Reps.set k n h2⟩
theorem Reps.rev {ds : List D} {vs : List V} (h : Reps C H as ds vs) : Reps C H as ds.reverse vs.reverse := by
  induction ds generalizing vs with
  | nil =>
    have h : vs = [] := h
    subst h
    rfl
  | cons d ds ih =>
    obtain ⟨v, r, rfl, h1, h2⟩ := h
    rw [List.reverse_cons, List.reverse_cons]
    exact (ih h2).append (Reps.one h1)
theorem Reps.ints {ns : List Int} {vs : List V} (h : Reps C H as (ns.map D.int) vs) : vs = ns.map V.int := by
  induction ns generalizing vs with
  | nil => exact h
  | cons n ns ih =>
    obtain ⟨v, r, rfl, h1, h2⟩ := h
    have h1 : v = .int n := h1
    rw [h1, ih h2]
    rfl
theorem Reps.of_ints : ∀ (ns : List Int), Reps C H as (ns.map D.int) (ns.map V.int)
  | [] => rfl
  | n :: ns => ⟨.int n, ns.map V.int, rfl, rfl, Reps.of_ints ns⟩
end

abbrev Sto := List SO
abbrev En := List (Option D)

structure WR (C : Cy) (H0 : Hb) (as : List Addr) (st : Sto) (H : Hp) : Prop where
  ex : Same H0.h H
  nd : as.Nodup
  len : as.length = st.length
  liv : ∀ a ∈ as, ∃ o, H a = some o
  own : ∀ (n : Nat) a o, as[n]? = some a → st[n]? = some o → o = .dead ∨ (H0.h a = none ∧ ∃ ho, H a = some ho ∧ RepO C H0 as o ho)
  gho : ∀ p ∈ H0.g, H0.h p.1 = none ∧ p.1 ∉ as ∧ H p.1 = some (.lst p.2)

structure EnR (C : Cy) (H0 : Hb) (as : List Addr) (en : En) (σ : L2.St) : Prop where
  len : en.length = σ.length
  at_ : ∀ (i : Nat) d, en[i]? = some (some d) → ∃ v, σ[i]? = some (some v) ∧ Rep C H0 as d v
theorem EnR.mono {C : Cy} {H H' : Hb} {as as' : List Addr} {en : En} {σ : L2.St} (l : Le H as H' as') (e : EnR C H as en σ) : EnR C H' as' en σ :=
  ⟨e.len, fun i d h => let ⟨v, a, b⟩ := e.at_ i d h; ⟨v, a, b.mono l⟩⟩
theorem EnR.set {C : Cy} {H : Hb} {as : List Addr} {en : En} {σ : L2.St} {d : D} {v : V} (e : EnR C H as en σ) (r : Rep C H as d v) (i : Nat) : EnR C H as (en.set i (some d)) (σ.set i (some v)) := by
  refine ⟨by rw [List.length_set, List.length_set, e.len], fun j d' h => ?_⟩
  by_cases hj : j = i
  · subst hj
    by_cases hl : j < en.length
    · rw [List.getElem?_set_self hl] at h
      cases h
      exact ⟨v, List.getElem?_set_self (by rw [← e.len]; exact hl), r⟩
    · rw [List.getElem?_eq_none_iff.mpr (by rw [List.length_set]; omega)] at h
      cases h
  · rw [List.getElem?_set_ne (Ne.symm hj)] at h
    rw [List.getElem?_set_ne (Ne.symm hj)]
    exact e.at_ j d' h

abbrev ME := En → Sto → Option (D × Sto)
abbrev MB := En → Sto → Option (Bool × Sto)
abbrev MA := En → Sto → Option (List D × Sto)
abbrev MO := En → Sto → Option (Option Int × Sto)
inductive Out where
  | nx (e : En) | rt (d : D) | bk (e : En) | ct (e : En)
abbrev MS := En → Sto → Option (Out × Sto)

/-- what follows a value -/
def KE (C : Cy) (H0 : Hb) (as : List Addr) (st : Sto) (d : D) (Q : VK) : Prop := ∀ v H0' as' H', Le H0 as H0' as' → WR C H0' as' st H' → Rep C H0' as' d v → Q v H'
def KB (C : Cy) (H0 : Hb) (as : List Addr) (st : Sto) (b : Bool) (Q : Bool → Hp → Prop) : Prop := ∀ H0' as' H', Le H0 as H0' as' → WR C H0' as' st H' → Q b H'
def KA (C : Cy) (H0 : Hb) (as : List Addr) (st : Sto) (ds : List D) (Q : List V → Hp → Prop) : Prop := ∀ vs H0' as' H', Le H0 as H0' as' → WR C H0' as' st H' → Reps C H0' as' ds vs → Q vs H'
def KS (C : Cy) (H0 : Hb) (as : List Addr) (st : Sto) (en : En) (Q : L2.St → Hp → Prop) : Prop := ∀ σ H0' as' H', Le H0 as H0' as' → WR C H0' as' st H' → EnR C H0' as' en σ → Q σ H'
def KO (C : Cy) (H0 : Hb) (as : List Addr) (st : Sto) (D : Ends) : Out → Prop
  | .nx en => KS C H0 as st en D.nx
  | .bk en => KS C H0 as st en D.bk
  | .ct en => KS C H0 as st en D.ct
  | .rt d => KE C H0 as st d D.rt
theorem KE.mono {C : Cy} {H H1 : Hb} {as as1 : List Addr} {st : Sto} {d : D} {Q : VK} (l : Le H as H1 as1) (k : KE C H as st d Q) : KE C H1 as1 st d Q := fun v H' as' H'' l' => k v H' as' H'' (l.trans l')
theorem KB.mono {C : Cy} {H H1 : Hb} {as as1 : List Addr} {st : Sto} {d : Bool} {Q : Bool → Hp → Prop} (l : Le H as H1 as1) (k : KB C H as st d Q) : KB C H1 as1 st d Q := fun H' as' H'' l' => k H' as' H'' (l.trans l')
theorem KA.mono {C : Cy} {H H1 : Hb} {as as1 : List Addr} {st : Sto} {d : List D} {Q : List V → Hp → Prop} (l : Le H as H1 as1) (k : KA C H as st d Q) : KA C H1 as1 st d Q := fun v H' as' H'' l' => k v H' as' H'' (l.trans l')
theorem KS.mono {C : Cy} {H H1 : Hb} {as as1 : List Addr} {st : Sto} {en : En} {Q : L2.St → Hp → Prop} (l : Le H as H1 as1) (k : KS C H as st en Q) : KS C H1 as1 st en Q := fun v H' as' H'' l' => k v H' as' H'' (l.trans l')
theorem KO.mono {C : Cy} {H H1 : Hb} {as as1 : List Addr} {st : Sto} {D : Ends} {o : Out} (l : Le H as H1 as1) (k : KO C H as st D o) : KO C H1 as1 st D o := by
  cases o with
  | nx en => exact KS.mono l k
  | bk en => exact KS.mono l k
  | ct en => exact KS.mono l k
  | rt d => exact KE.mono l k

def eM (C : Cy) (m : ME) : TE := fun σ H Q => ∃ H0 as en st d st', EnR C H0 as en σ ∧ WR C H0 as st H ∧ m en st = some (d, st') ∧ KE C H0 as st' d Q
def bM (C : Cy) (m : MB) : TT := fun σ H Q => ∃ H0 as en st b st', EnR C H0 as en σ ∧ WR C H0 as st H ∧ m en st = some (b, st') ∧ KB C H0 as st' b Q
def aM (C : Cy) (m : MA) : TA := fun σ H Q => ∃ H0 as en st ds st', EnR C H0 as en σ ∧ WR C H0 as st H ∧ m en st = some (ds, st') ∧ KA C H0 as st' ds Q
def oM (C : Cy) (m : MO) : TO := fun σ H Q => ∃ H0 as en st o st', EnR C H0 as en σ ∧ WR C H0 as st H ∧ m en st = some (o, st') ∧ ∀ H0' as' H', Le H0 as H0' as' → WR C H0' as' st' H' → Q o H'
def sM (C : Cy) (m : MS) : TS := fun D σ H => ∃ H0 as en st o st', EnR C H0 as en σ ∧ WR C H0 as st H ∧ m en st = some (o, st') ∧ KO C H0 as st' D o

section
variable {X : Cx} {e : Expr} {es : List Expr}
theorem PE.imp {t t' : TE} (h : PE X e t) (i : ∀ σ H Q, t' σ H Q → t σ H Q) : PE X e t' := ⟨fun pins s σ H Q I w => h.run pins s σ H Q I (i σ H Q w)⟩
theorem PT.imp {t t' : TT} (h : PT X e t) (i : ∀ σ H Q, t' σ H Q → t σ H Q) : PT X e t' := ⟨fun pins s σ H Q I w => h.run pins s σ H Q I (i σ H Q w)⟩
theorem PW.imp {t t' : TT} (h : PW X e t) (i : ∀ σ H Q, t' σ H Q → t σ H Q) : PW X e t' := ⟨fun wh pins s σ H Q I w => h.run wh pins s σ H Q I (i σ H Q w)⟩
theorem PA.imp {t t' : TA} (h : PA X es t) (i : ∀ σ H Q, t' σ H Q → t σ H Q) : PA X es t' := ⟨fun pos pins s σ H Q I w => h.run pos pins s σ H Q I (i σ H Q w)⟩
theorem PS.imp {st : Stmt} {t t' : TS} (h : PS X st t) (i : ∀ D σ H, t' D σ H → t D σ H) : PS X st t' := ⟨fun pins s σ H D I w => h.run pins s σ H D I (i D σ H w)⟩
theorem PSs.imp {st : List Stmt} {t t' : TS} (h : PSs X st t) (i : ∀ D σ H, t' D σ H → t D σ H) : PSs X st t' := ⟨fun pins s σ H D I w => h.run pins s σ H D I (i D σ H w)⟩
theorem PI.imp {tg : Expr} {t t' : TI} (h : PI X tg e t) (i : ∀ σ H R, t' σ H R → t σ H R) : PI X tg e t' := ⟨fun pins s σ H R I w => h.run pins s σ H R I (i σ H R w)⟩
end

/-! ### expressions -/
def mC (d : D) : ME := fun _ st => some (d, st)
def mV (i : Nat) : ME := fun en st => match en[i]? with
  | some (some d) => some (d, st)
  | _ => none
def mOp (f : D → D → Sto → Option (D × Sto)) (a b : ME) : ME := fun en st => (a en st).bind fun p => (b en p.2).bind fun q => f p.1 q.1 q.2
def mUn (f : D → Sto → Option (D × Sto)) (a : ME) : ME := fun en st => (a en st).bind fun p => f p.1 p.2
def mCb (f : List D → Sto → Option (D × Sto)) (a : MA) : ME := fun en st => (a en st).bind fun p => f p.1 p.2
def mNil : MA := fun _ st => some ([], st)
def mCons (a : ME) (r : MA) : MA := fun en st => (a en st).bind fun p => (r en p.2).bind fun q => some (p.1 :: q.1, q.2)

/-- what a rule by values gives, is what f says -/
def Ok2 (C : Cy) (r : R2) (f : D → D → Sto → Option (D × Sto)) : Prop := ∀ H0 as st H dx dy x y d st' Q, WR C H0 as st H → Rep C H0 as dx x → Rep C H0 as dy y → f dx dy st = some (d, st') → KE C H0 as st' d Q → r x y H Q
def Ok1 (C : Cy) (r : V → Hp → VK → Prop) (f : D → Sto → Option (D × Sto)) : Prop := ∀ H0 as st H dx x d st' Q, WR C H0 as st H → Rep C H0 as dx x → f dx st = some (d, st') → KE C H0 as st' d Q → r x H Q
def OkC (C : Cy) (r : List V → Hp → VK → Prop) (f : List D → Sto → Option (D × Sto)) : Prop := ∀ H0 as st H ds vs d st' Q, WR C H0 as st H → Reps C H0 as ds vs → f ds st = some (d, st') → KE C H0 as st' d Q → r vs H Q

section
variable {C : Cy} {σ : L2.St} {H : Hp} {Q : VK} {ma mb : ME}
theorem em_c {v : V} {d : D} (h : ∀ H0 as, Rep C H0 as d v) : eM C (mC d) σ H Q → tC v σ H Q := by
  rintro ⟨H0, as, en, st, d', st', e, w, hm, k⟩
  cases hm
  exact k v H0 as H Le.refl w (h H0 as)
theorem em_v {i : Nat} : eM C (mV i) σ H Q → tVar i σ H Q := by
  rintro ⟨H0, as, en, st, d', st', e, w, hm, k⟩
  unfold mV at hm
  split at hm
  · rename_i d0 h0
    cases hm
    obtain ⟨v, hv, r⟩ := e.at_ i _ h0
    exact ⟨v, hv, k v H0 as H Le.refl w r⟩
  · cases hm
theorem em_op {r : R2} {f : D → D → Sto → Option (D × Sto)} (ok : Ok2 C r f) : eM C (mOp f ma mb) σ H Q → tOp r (eM C ma) (eM C mb) σ H Q := by
  rintro ⟨H0, as, en, st, d, st', e, w, hm, k⟩
  unfold mOp at hm
  obtain ⟨⟨da, s1⟩, ha, hm⟩ := Option.bind_eq_some_iff.mp hm
  obtain ⟨⟨db, s2⟩, hb, hm⟩ := Option.bind_eq_some_iff.mp hm
  refine ⟨H0, as, en, st, da, s1, e, w, ha, fun x H1 as1 H1' l1 w1 r1 => ?_⟩
  refine ⟨H1, as1, en, s1, db, s2, e.mono l1, w1, hb, fun y H2 as2 H2' l2 w2 r2 => ?_⟩
  exact ok H2 as2 s2 H2' da db x y d st' Q w2 (r1.mono l2) r2 hm (k.mono (l1.trans l2))
theorem em_un {r : V → Hp → VK → Prop} {f : D → Sto → Option (D × Sto)} (ok : Ok1 C r f) : eM C (mUn f ma) σ H Q → tUn r (eM C ma) σ H Q := by
  rintro ⟨H0, as, en, st, d, st', e, w, hm, k⟩
  unfold mUn at hm
  obtain ⟨⟨da, s1⟩, ha, hm⟩ := Option.bind_eq_some_iff.mp hm
  refine ⟨H0, as, en, st, da, s1, e, w, ha, fun x H1 as1 H1' l1 w1 r1 => ?_⟩
  exact ok H1 as1 s1 H1' da x d st' Q w1 r1 hm (k.mono l1)
theorem am_nil {Q : List V → Hp → Prop} : aM C mNil σ H Q → tNil σ H Q := by
  rintro ⟨H0, as, en, st, d', st', e, w, hm, k⟩
  cases hm
  exact k [] H0 as H Le.refl w rfl
theorem am_cons {Q : List V → Hp → Prop} {mr : MA} : aM C (mCons ma mr) σ H Q → tCons (eM C ma) (aM C mr) σ H Q := by
  rintro ⟨H0, as, en, st, ds, st', e, w, hm, k⟩
  unfold mCons at hm
  obtain ⟨⟨da, s1⟩, ha, hm⟩ := Option.bind_eq_some_iff.mp hm
  obtain ⟨⟨db, s2⟩, hb, hm⟩ := Option.bind_eq_some_iff.mp hm
  cases hm
  refine ⟨H0, as, en, st, da, s1, e, w, ha, fun x H1 as1 H1' l1 w1 r1 => ?_⟩
  refine ⟨H1, as1, en, s1, db, s2, e.mono l1, w1, hb, fun y H2 as2 H2' l2 w2 r2 => ?_⟩
  exact k (x :: y) H2 as2 H2' (l1.trans l2) w2 ⟨x, y, rfl, r1.mono l2, r2⟩
theorem em_cb {r : List V → Hp → VK → Prop} {f : List D → Sto → Option (D × Sto)} (ok : OkC C r f) {m : MA} : eM C (mCb f m) σ H Q → tCB r (aM C m) σ H Q := by
  rintro ⟨H0, as, en, st, d, st', e, w, hm, k⟩
  unfold mCb at hm
  obtain ⟨⟨da, s1⟩, ha, hm⟩ := Option.bind_eq_some_iff.mp hm
  refine ⟨H0, as, en, st, da, s1, e, w, ha, fun x H1 as1 H1' l1 w1 r1 => ?_⟩
  exact ok H1 as1 s1 H1' da x d st' Q w1 r1 hm (k.mono l1)
end

/-! ### heaps that grow -/
theorem WR.grow {C : Cy} {H0 : Hb} {H : Hp} {as : List Addr} {st : Sto} (w : WR C H0 as st H) {p : Addr} {o : HO} (hp : H p = none) : WR C ⟨upd H0.h p o, H0.g⟩ as st (upd H p o) ∧ Le H0 as ⟨upd H0.h p o, H0.g⟩ as := by
  have h0 : H0.h p = none := w.ex.free hp
  have l : Le H0 as ⟨upd H0.h p o, H0.g⟩ as := ⟨fun b x e => (show upd H0.h p o b = some x by rw [upd_ne (ne_of_none e h0)]; exact e), rfl, List.prefix_rfl⟩
  refine ⟨⟨fun b x e => ?_, w.nd, w.len, fun a ha => ?_, fun n a x ha hx => ?_, fun q hq => ?_⟩, l⟩
  · have e : upd H0.h p o b = some x := e
    by_cases hb : b = p
    · subst hb
      rw [upd_same] at e ⊢
      exact e
    · rw [upd_ne hb] at e ⊢
      exact w.ex b x e
  · obtain ⟨u, hu⟩ := w.liv a ha
    exact ⟨u, by rw [upd_ne (ne_of_none hu hp)]; exact hu⟩
  · rcases w.own n a x ha hx with z | ⟨z, ho, h1, h2⟩
    · exact .inl z
    · have hap : a ≠ p := ne_of_none h1 hp
      exact .inr ⟨(show upd H0.h p o a = none by rw [upd_ne hap]; exact z), ho, by rw [upd_ne hap]; exact h1, h2.mono l⟩
  · obtain ⟨h1, h2, h3⟩ := w.gho q hq
    have hqp : q.1 ≠ p := ne_of_none h3 hp
    exact ⟨(show upd H0.h p o q.1 = none by rw [upd_ne hqp]; exact h1), h2, by rw [upd_ne hqp]; exact h3⟩
/-- a new tuple (frozen list) -/
theorem KE.newT {C : Cy} {H0 : Hb} {H : Hp} {as : List Addr} {st : Sto} {Q : VK} {ds : List D} {vs : List V} (k : KE C H0 as st (.tup ds) Q) (w : WR C H0 as st H) (r : Reps C H0 as ds vs) : ∀ p, H p = none → Q (.ref p) (upd H p (.tup vs)) := fun p hp => by
  obtain ⟨w', l⟩ := w.grow (o := .tup vs) hp
  exact k (.ref p) _ as _ l w' ⟨p, vs, rfl, SqT.of upd_same, r.mono l⟩
theorem KE.newL {C : Cy} {H0 : Hb} {H : Hp} {as : List Addr} {st : Sto} {Q : VK} {ds : List D} {vs : List V} (k : KE C H0 as st (.lst ds) Q) (w : WR C H0 as st H) (r : Reps C H0 as ds vs) : ∀ p, H p = none → Q (.ref p) (upd H p (.lst vs)) := fun p hp => by
  obtain ⟨w', l⟩ := w.grow (o := .lst vs) hp
  exact k (.ref p) _ as _ l w' ⟨p, vs, rfl, upd_same, r.mono l⟩
/-- a new mutable object -/
theorem WR.push {C : Cy} {H0 : Hb} {H : Hp} {as : List Addr} {st : Sto} (w : WR C H0 as st H) {p : Addr} {o : SO} {ho : HO} (hp : H p = none) (r : RepO C H0 as o ho) : WR C H0 (as ++ [p]) (st ++ [o]) (upd H p ho) ∧ Le H0 as H0 (as ++ [p]) := by
  have h0 : H0.h p = none := w.ex.free hp
  have l : Le H0 as H0 (as ++ [p]) := ⟨Same.refl H0.h, rfl, List.prefix_append _ _⟩
  have np : p ∉ as := fun z => by
    obtain ⟨u, hu⟩ := w.liv p z
    rw [hp] at hu
    cases hu
  refine ⟨⟨fun b x e => ?_, ?_, ?_, fun a ha => ?_, fun n a x ha hx => ?_, fun q hq => ?_⟩, l⟩
  · have hb : b ≠ p := ne_of_none e h0
    rw [upd_ne hb]
    exact w.ex b x e
  · refine List.nodup_append.mpr ⟨w.nd, by simp, fun a ha b hb => ?_⟩
    have e : b = p := by simpa using hb
    subst e
    exact fun z => np (z ▸ ha)
  · simp [w.len]
  · rcases List.mem_append.mp ha with ha | ha
    · obtain ⟨u, hu⟩ := w.liv a ha
      exact ⟨u, by rw [upd_ne (ne_of_none hu hp)]; exact hu⟩
    · have e : a = p := by simpa using ha
      subst e
      exact ⟨ho, upd_same⟩
  · by_cases hn : n < as.length
    · rw [List.getElem?_append_left hn] at ha
      rw [List.getElem?_append_left (by rw [← w.len]; exact hn)] at hx
      rcases w.own n a x ha hx with z | ⟨z, u, h1, h2⟩
      · exact .inl z
      · have hap : a ≠ p := ne_of_none h1 hp
        exact .inr ⟨z, u, by rw [upd_ne hap]; exact h1, h2.mono l⟩
    · have hn' : n = as.length := by
        have := (List.getElem?_eq_some_iff.mp ha).1
        rw [List.length_append] at this
        simp at this
        omega
      subst hn'
      rw [List.getElem?_append_right (Nat.le_refl _)] at ha
      rw [w.len, List.getElem?_append_right (Nat.le_refl _)] at hx
      simp at ha hx
      subst ha hx
      exact .inr ⟨h0, ho, upd_same, r.mono l⟩
  · obtain ⟨h1, h2, h3⟩ := w.gho q hq
    have hqp : q.1 ≠ p := ne_of_none h3 hp
    exact ⟨h1, fun z => (List.mem_append.mp z).elim h2 fun z => hqp (by simpa using z), by rw [upd_ne hqp]; exact h3⟩
theorem KE.newM {C : Cy} {H0 : Hb} {H : Hp} {as : List Addr} {st : Sto} {Q : VK} {ds : List D} {vs : List V} (k : KE C H0 as (st ++ [.lst ds]) (.loc st.length) Q) (w : WR C H0 as st H) (r : Reps C H0 as ds vs) : ∀ p, H p = none → Q (.ref p) (upd H p (.lst vs)) := fun p hp => by
  obtain ⟨w', l⟩ := w.push (o := .lst ds) hp ⟨vs, rfl, r⟩
  exact k (.ref p) _ _ _ l w' ⟨p, by rw [← w.len]; simp, rfl⟩
/-- a mutable object is changed -/
theorem WR.put {C : Cy} {H0 : Hb} {H : Hp} {as : List Addr} {st : Sto} (w : WR C H0 as st H) {n : Nat} {a : Addr} {o : SO} {ho : HO} (ha : as[n]? = some a) (hn : H0.h a = none) (r : RepO C H0 as o ho) : WR C H0 as (st.set n o) (upd H a ho) := by
  refine ⟨fun b x e => ?_, w.nd, by rw [List.length_set, w.len], fun b hb => ?_, fun m b x hb hx => ?_, fun q hq => ?_⟩
  · rw [upd_ne (ne_of_none e hn)]
    exact w.ex b x e
  · by_cases e : b = a
    · subst e
      exact ⟨ho, upd_same⟩
    · rw [upd_ne e]
      exact w.liv b hb
  · by_cases e : m = n
    · subst e
      rw [ha] at hb
      cases hb
      have hl : m < st.length := by
        have := (List.getElem?_eq_some_iff.mp ha).1
        rw [w.len] at this
        exact this
      rw [List.getElem?_set_self hl] at hx
      cases hx
      exact .inr ⟨hn, ho, upd_same, r⟩
    · rw [List.getElem?_set_ne (Ne.symm e)] at hx
      have hba : b ≠ a := fun z => by
        subst z
        obtain ⟨h1, e1⟩ := List.getElem?_eq_some_iff.mp ha
        obtain ⟨h2, e2⟩ := List.getElem?_eq_some_iff.mp hb
        exact e ((List.getElem_inj w.nd).mp (e2.trans e1.symm))
      rcases w.own m b x hb hx with z | ⟨z, u, h1, h2⟩
      · exact .inl z
      · exact .inr ⟨z, u, by rw [upd_ne hba]; exact h1, h2⟩
  · obtain ⟨h1, h2, h3⟩ := w.gho q hq
    have hqa : q.1 ≠ a := fun z => h2 (by rw [z]; exact List.mem_of_getElem? ha)
    exact ⟨h1, h2, by rw [upd_ne hqa]; exact h3⟩
end My


namespace My
open PySem PySem.Spec PyProof.Rows L2

/-! ### looking into sequences -/
def look : D → Sto → Option (List D)
  | .tup ds, _ => some ds
  | .lst ds, _ => some ds
  | .fro ds, _ => some ds
  | .loc n, st => match st[n]? with
    | some (.lst ds) => some ds
    | _ => none
  | _, _ => none
def lookL : D → Sto → Option (List D)
  | .lst ds, _ => some ds
  | .loc n, st => match st[n]? with
    | some (.lst ds) => some ds
    | _ => none
  | _, _ => none
/-- no mutable object stands in it at the top -/
def noLoc : D → Bool
  | .loc _ => false
  | _ => true
/-- a list is made: frozen, or mutable -/
def alloc (mu : Bool) (ds : List D) (st : Sto) : D × Sto := if mu then (.loc st.length, st ++ [.lst ds]) else (.lst ds, st)

section
variable {C : Cy} {H0 : Hb} {H : Hp} {as : List Addr} {st st' : Sto} {Q : VK}
theorem WR.loc (w : WR C H0 as st H) {n : Nat} {ds : List D} (h : st[n]? = some (.lst ds)) : ∃ a vs, as[n]? = some a ∧ H0.h a = none ∧ H a = some (.lst vs) ∧ Reps C H0 as ds vs := by
  have hl : n < as.length := by rw [w.len]; exact (List.getElem?_eq_some_iff.mp h).1
  rcases w.own n _ _ (List.getElem?_eq_getElem hl) h with z | ⟨z, ho, h1, vs, rfl, h2⟩
  · cases z
  · exact ⟨as[n], vs, List.getElem?_eq_getElem hl, z, h1, h2⟩
theorem look_seq (w : WR C H0 as st H) {d : D} {x : V} {ds : List D} (r : Rep C H0 as d x) (h : look d st = some ds) : ∃ a vs, x = .ref a ∧ (SqL C.K H a vs ∨ SqT C.K H a vs) ∧ Reps C H0 as ds vs := by
  cases d with
  | tup es =>
    cases h
    obtain ⟨a, vs, e, hs, hr⟩ := r
    exact ⟨a, vs, e, .inr (same_seqT w.ex hs), hr⟩
  | lst es =>
    cases h
    obtain ⟨a, vs, e, hs, hr⟩ := r
    exact ⟨a, vs, e, .inl (SqL.of (w.ex _ _ hs)), hr⟩
  | fro es =>
    cases h
    obtain ⟨a, vs, e, hs, hr⟩ := r
    exact ⟨a, vs, e, .inl (w.ex.seq hs), hr⟩
  | loc n =>
    obtain ⟨a, ha, e⟩ := r
    unfold look at h
    dsimp only at h
    split at h
    · rename_i es he
      cases h
      obtain ⟨a', vs, ha', _, h1, h2⟩ := w.loc he
      rw [ha] at ha'
      cases ha'
      exact ⟨a, vs, e, .inl (SqL.of h1), h2⟩
    · cases h
  | _ => cases h
theorem lookL_seq (w : WR C H0 as st H) {d : D} {x : V} {ds : List D} (r : Rep C H0 as d x) (h : lookL d st = some ds) : ∃ a vs, x = .ref a ∧ H a = some (.lst vs) ∧ Reps C H0 as ds vs := by
  cases d with
  | lst es =>
    cases h
    obtain ⟨a, vs, e, hs, hr⟩ := r
    exact ⟨a, vs, e, w.ex _ _ hs, hr⟩
  | loc n =>
    obtain ⟨a, ha, e⟩ := r
    unfold lookL at h
    dsimp only at h
    split at h
    · rename_i es he
      cases h
      obtain ⟨a', vs, ha', _, h1, h2⟩ := w.loc he
      rw [ha] at ha'
      cases ha'
      exact ⟨a, vs, e, h1, h2⟩
    · cases h
  | _ => cases h
theorem KE.newA {mu : Bool} {ds : List D} {vs : List V} {d : D} (k : KE C H0 as st' d Q) (h : alloc mu ds st = (d, st')) (w : WR C H0 as st H) (r : Reps C H0 as ds vs) : ∀ p, H p = none → Q (.ref p) (upd H p (.lst vs)) := by
  cases mu with
  | true =>
    cases h
    exact KE.newM k w r
  | false =>
    cases h
    exact KE.newL k w r
theorem KE.val {d : D} {v : V} (k : KE C H0 as st d Q) (w : WR C H0 as st H) (r : Rep C H0 as d v) : Q v H := k v H0 as H Le.refl w r
end

/-! ### PyData of a value -/
mutual
def toPy : D → Option PyData
  | .non => some .none
  | .bl b => some (.bool b)
  | .int i => some (.int i)
  | .str x => some (.str x)
  | .tup ds => (toPys ds).map .tuple
  | .lst ds => (toPys ds).map .list
  | .fro ds => (toPys ds).map .list
  | _ => none
def toPys : List D → Option (List PyData)
  | [] => some []
  | d :: ds => (toPy d).bind fun p => (toPys ds).map (p :: ·)
end
section
variable {C : Cy} {H0 : Hb} {H : Hp} {as : List Addr}
mutual
theorem toPy_dp (ex : Same H0.h H) : ∀ {d : D} {v : V} {p : PyData}, toPy d = some p → Rep C H0 as d v → Dp C.K H v p
  | .non, _, _, h, r => by
    cases h
    have r : _ = V.non := r
    subst r
    exact .non
  | .bl b, _, _, h, r => by
    cases h
    have r : _ = V.bl b := r
    subst r
    exact .bl b
  | .int b, _, _, h, r => by
    cases h
    have r : _ = V.int b := r
    subst r
    exact .int b
  | .str b, _, _, h, r => by
    cases h
    have r : _ = V.str b := r
    subst r
    exact .str b
  | .tup ds, _, _, h, r => by
    unfold toPy at h
    obtain ⟨ps, hp, rfl⟩ := Option.map_eq_some_iff.mp h
    obtain ⟨a, vs, rfl, hs, hr⟩ := r
    exact .tup (same_seqT ex hs) (toPys_dp ex hp hr)
  | .lst ds, _, _, h, r => by
    unfold toPy at h
    obtain ⟨ps, hp, rfl⟩ := Option.map_eq_some_iff.mp h
    obtain ⟨a, vs, rfl, hs, hr⟩ := r
    exact .lst (SqL.of (ex _ _ hs)) (toPys_dp ex hp hr)
  | .fro ds, _, _, h, r => by
    unfold toPy at h
    obtain ⟨ps, hp, rfl⟩ := Option.map_eq_some_iff.mp h
    obtain ⟨a, vs, rfl, hs, hr⟩ := r
    exact .lst (ex.seq hs) (toPys_dp ex hp hr)
  | .ty _, _, _, h, _ => by cases h
  | .adr _, _, _, h, _ => by cases h
  | .loc _, _, _, h, _ => by cases h
  | .fdk _ _ _, _, _, h, _ => by cases h
  | .set _, _, _, h, _ => by cases h
  | .fn _, _, _, h, _ => by cases h
theorem toPys_dp (ex : Same H0.h H) : ∀ {ds : List D} {vs : List V} {ps : List PyData}, toPys ds = some ps → Reps C H0 as ds vs → DpAll C.K H vs ps
  | [], _, _, h, r => by
    cases h
    have r : _ = [] := r
    subst r
    exact .nil
  | d :: ds, _, _, h, r => by
    unfold toPys at h
    obtain ⟨p, hp, h⟩ := Option.bind_eq_some_iff.mp h
    obtain ⟨ps, hps, rfl⟩ := Option.map_eq_some_iff.mp h
    obtain ⟨v, r', rfl, h1, h2⟩ := r
    exact .cons (toPy_dp ex hp h1) (toPys_dp ex hps h2)
end
end
/-- data of a value, a mutable list's too -/
def dat (d : D) (st : Sto) : Option PyData := match d with
  | .loc n => match st[n]? with
    | some (.lst ds) => (toPys ds).map .list
    | _ => none
  | d => toPy d
theorem dat_dp {C : Cy} {H0 : Hb} {H : Hp} {as : List Addr} {st : Sto} (w : WR C H0 as st H) {d : D} {v : V} {p : PyData} (h : dat d st = some p) (r : Rep C H0 as d v) : Dp C.K H v p := by
  cases d with
  | loc n =>
    unfold dat at h
    dsimp only at h
    split at h
    · rename_i ds he
      obtain ⟨ps, hp, rfl⟩ := Option.map_eq_some_iff.mp h
      obtain ⟨a, vs, ha, _, h1, h2⟩ := w.loc he
      obtain ⟨a', ha', rfl⟩ := r
      rw [ha] at ha'
      cases ha'
      exact .lst (SqL.of h1) (toPys_dp w.ex hp h2)
    · cases h
  | _ => exact toPy_dp w.ex h r

/-! ### operators -/
def fAdd (mu : Bool) : D → D → Sto → Option (D × Sto)
  | .int i, .int j, st => some (.int (i + j), st)
  | .str x, .str y, st => if x.length + y.length ≤ sizeLine then some (.str (x ++ y), st) else none
  | .tup xs, .tup ys, st => if xs.length + ys.length ≤ sizeLine then some (.tup (xs ++ ys), st) else none
  | a, b, st => (lookL a st).bind fun xs => (lookL b st).bind fun ys => if xs.length + ys.length ≤ sizeLine then some (alloc mu (xs ++ ys) st) else none
def fSub : D → D → Sto → Option (D × Sto)
  | .int i, .int j, st => some (.int (i - j), st)
  | _, _, _ => none
def fI (c : Int → Int → Bool) (g : Int → Int → Int) : D → D → Sto → Option (D × Sto)
  | .int i, .int j, st => if c i j = true then some (.int (g i j), st) else none
  | _, _, _ => none
def fB (g : Int → Int → Bool) : D → D → Sto → Option (D × Sto)
  | .int i, .int j, st => some (.bl (g i j), st)
  | _, _, _ => none
/-- not great; told so that no check reckons it out (Nat.ble by natAbs) -/
def small (i : Int) : Bool := Nat.ble i.natAbs 1152921504606846976
theorem small_le {i : Int} (h : small i = true) : -1152921504606846976 ≤ i ∧ i ≤ 1152921504606846976 := by
  have := Nat.le_of_ble_eq_true h
  omega
theorem small_of {i : Int} (h : -1152921504606846976 ≤ i ∧ i ≤ 1152921504606846976) : small i = true := Nat.ble_eq_true_of_le (by omega)
def cMul (i j : Int) : Bool := small i || small j
def cDiv (_ j : Int) : Bool := decide (0 < j) && decide (j.natAbs.log2 < 9000)
def cMod (_ j : Int) : Bool := decide (0 < j)
def cPow (i j : Int) : Bool := decide (0 ≤ j) && Nat.ble j.natAbs 1000000 && small i
theorem cPow_ok {i j : Int} (h : cPow i j = true) : 0 ≤ j ∧ j ≤ 1000000 ∧ i.natAbs < 2 ^ 64 := by
  unfold cPow at h
  simp only [Bool.and_eq_true, decide_eq_true_eq] at h
  have a := Nat.le_of_ble_eq_true h.1.2
  have b := Nat.le_of_ble_eq_true h.2
  refine ⟨h.1.1, by omega, Nat.lt_of_le_of_lt b (by decide)⟩
def fMulI := fI cMul fun i j => i * j
def fDiv := fI cDiv fun i j => i / j
def fMod := fI cMod fun i j => i % j
def fPow := fI cPow fun i j => i ^ j.toNat
def fShl := fI cPow fun i j => i * 2 ^ j.toNat
def fMul (mu : Bool) : D → D → Sto → Option (D × Sto)
  | .int i, .int j, st => if cMul i j = true then some (.int (i * j), st) else none
  | a, .int k, st => (lookL a st).bind fun xs => if small k = true ∧ xs.length * k.toNat ≤ sizeLine then some (alloc mu (List.replicate k.toNat xs).flatten st) else none
  | _, _, _ => none
def fLt : D → D → Sto → Option (D × Sto)
  | .int i, .int j, st => some (.bl (decide (i < j)), st)
  | .str x, .str y, st => some (.bl (decide (x.cps.toList < y.cps.toList)), st)
  | _, _, _ => none
def fLe := fB fun i j => decide (i ≤ j)
def fGt := fB fun i j => decide (j < i)
def fGe := fB fun i j => decide (j ≤ i)
/-- == -/
def eqD (a b : D) (st : Sto) : Option Bool := match a, b with
  | .int i, .int j => some (decide (i = j))
  | .str x, .str y => some (decide (x = y))
  | .bl x, .bl y => some (decide (x = y))
  | a, b => (dat a st).bind fun p => (dat b st).bind fun q => if SeqAt.shaped p = true ∧ SeqAt.shaped q = true then some (PyData.eqv p q) else none
def fEq (a b : D) (st : Sto) : Option (D × Sto) := (eqD a b st).map fun r => (.bl r, st)
def fNe (a b : D) (st : Sto) : Option (D × Sto) := (eqD a b st).map fun r => (.bl (!r), st)
/-- in -/
def flatD : D → Bool
  | .non => true
  | .bl _ => true
  | .int _ => true
  | .str _ => true
  | _ => false
def eqF : D → D → Bool
  | .non, .non => true
  | .bl a, .bl b => a == b
  | .bl a, .int b => (if a then 1 else 0) == b
  | .int a, .bl b => a == (if b then 1 else 0)
  | .int a, .int b => a == b
  | .str a, .str b => a == b
  | _, _ => false
def inD (x : D) (ds : List D) : Bool := ds.any fun y => eqF y x
def fIn (neg : Bool) (a b : D) (st : Sto) : Option (D × Sto) := (look b st).bind fun ds => if flatD a = true ∧ ds.all flatD = true then some (.bl (if neg then !inD a ds else inD a ds), st) else none
/-- is None -/
def isNon : D → Bool
  | .non => true
  | _ => false
def fIsN (neg : Bool) (a b : D) (st : Sto) : Option (D × Sto) := match b with
  | .non => some (.bl (if neg then !isNon a else isNon a), st)
  | _ => none
def fNeg : D → Sto → Option (D × Sto)
  | .int i, st => some (.int (-i), st)
  | _, _ => none
/-- a[i] -/
def fIx (a b : D) (st : Sto) : Option (D × Sto) := match b with
  | .int i => (look a st).bind fun ds => (atI ds i).map (·, st)
  | _ => none

section
variable {C : Cy} {X : Cx}
theorem rep_int {H0 : Hb} {as : List Addr} {i : Int} {x : V} (r : Rep C H0 as (.int i) x) : x = .int i := r
theorem rep_str {H0 : Hb} {as : List Addr} {i : Str} {x : V} (r : Rep C H0 as (.str i) x) : x = .str i := r
theorem rep_bl {H0 : Hb} {as : List Addr} {i : Bool} {x : V} (r : Rep C H0 as (.bl i) x) : x = .bl i := r
theorem Rep.notFlat_tup {H0 : Hb} {as : List Addr} {ds : List D} {x : V} (r : Rep C H0 as (.tup ds) x) : ∃ a, x = .ref a := let ⟨a, _, e, _⟩ := r; ⟨a, e⟩

theorem ok_fI {c : Int → Int → Bool} {P : Int → Int → Prop} {g : Int → Int → Int} (h : ∀ i j, c i j = true → P i j) : Ok2 C (rI P fun i j => .int (g i j)) (fI c g) := by
  intro H0 as st H dx dy x y d st' Q w rx ry hf k
  cases dx with
  | int i =>
    cases dy with
    | int j =>
      cases rep_int rx
      cases rep_int ry
      unfold fI at hf
      dsimp only at hf
      split at hf
      · rename_i hc
        cases hf
        exact ⟨i, j, rfl, rfl, h _ _ hc, k.val w rfl⟩
      · cases hf
    | _ => cases hf
  | _ => cases hf
theorem ok_fB {g : Int → Int → Bool} : Ok2 C (rI0 fun i j => .bl (g i j)) (fB g) := by
  intro H0 as st H dx dy x y d st' Q w rx ry hf k
  cases dx with
  | int i =>
    cases dy with
    | int j =>
      cases rep_int rx
      cases rep_int ry
      cases hf
      exact ⟨i, j, rfl, rfl, k.val w rfl⟩
    | _ => cases hf
  | _ => cases hf
theorem ok_sub : Ok2 C (rI0 fun i j => .int (i - j)) fSub := by
  intro H0 as st H dx dy x y d st' Q w rx ry hf k
  cases dx with
  | int i =>
    cases dy with
    | int j =>
      cases rep_int rx
      cases rep_int ry
      cases hf
      exact ⟨i, j, rfl, rfl, k.val w rfl⟩
    | _ => cases hf
  | _ => cases hf
def rAddA (K : PySem.W.Frag) : R2 := fun x y H Q => (rI0 fun i j => .int (i + j)) x y H Q ∨ (∃ i j, x = .str i ∧ y = .str j ∧ i.length + j.length ≤ sizeLine ∧ Q (.str (i ++ j)) H) ∨ rCatA K x y H Q ∨ rCat x y H Q
theorem op_addA : OpR X (binaryOp .Add) (rAddA X.K) := OpR.or op_add (OpR.or op_add_str (OpR.or op_catA op_cat))
theorem catL {mu : Bool} {H0 : Hb} {as : List Addr} {st st' : Sto} {H : Hp} {dx dy d : D} {x y : V} {Q : VK} (w : WR C H0 as st H) (rx : Rep C H0 as dx x) (ry : Rep C H0 as dy y)
    (hf : ((lookL dx st).bind fun xs => (lookL dy st).bind fun ys => if xs.length + ys.length ≤ sizeLine then some (alloc mu (xs ++ ys) st) else none) = some (d, st')) (k : KE C H0 as st' d Q) : rCat x y H Q := by
  obtain ⟨xs, hx, hf⟩ := Option.bind_eq_some_iff.mp hf
  obtain ⟨ys, hy, hf⟩ := Option.bind_eq_some_iff.mp hf
  obtain ⟨a, vs, rfl, ha, r1⟩ := lookL_seq w rx hx
  obtain ⟨b, us, rfl, hb, r2⟩ := lookL_seq w ry hy
  split at hf
  · rename_i hl
    have hf := Option.some.inj hf
    exact ⟨a, b, vs, us, rfl, rfl, ha, hb, by rw [← r1.length, ← r2.length]; exact hl, k.newA hf w (r1.append r2)⟩
  · cases hf
theorem ok_add {mu : Bool} : Ok2 C (rAddA C.K) (fAdd mu) := by
  intro H0 as st H dx dy x y d st' Q w rx ry hf k
  cases dx with
  | int i =>
    cases dy with
    | int j =>
      cases rep_int rx
      cases rep_int ry
      cases hf
      exact .inl ⟨i, j, rfl, rfl, k.val w rfl⟩
    | _ => cases hf
  | str i =>
    cases dy with
    | str j =>
      cases rep_str rx
      cases rep_str ry
      unfold fAdd at hf
      dsimp only at hf
      split at hf
      · rename_i hl
        cases hf
        exact .inr (.inl ⟨i, j, rfl, rfl, hl, k.val w rfl⟩)
      · cases hf
    | _ => cases hf
  | tup xs =>
    cases dy with
    | tup ys =>
      unfold fAdd at hf
      dsimp only at hf
      split at hf
      · rename_i hl
        cases hf
        obtain ⟨a, vs, rfl, ha, r1⟩ := rx
        obtain ⟨b, us, rfl, hb, r2⟩ := ry
        refine .inr (.inr (.inl ⟨a, b, vs, us, rfl, rfl, same_seqT w.ex ha, same_seqT w.ex hb, by rw [← r1.length, ← r2.length]; exact hl, fun e => ?_, fun _ e => ?_, fun _ _ => k.newT w (r1.append r2)⟩))
        · subst e
          have e : xs = [] := List.length_eq_zero_iff.mp r1.length
          subst e
          exact k.val w ⟨b, us, rfl, hb, r2⟩
        · subst e
          have e : ys = [] := List.length_eq_zero_iff.mp r2.length
          subst e
          rw [List.append_nil] at k
          exact k.val w ⟨a, vs, rfl, ha, r1⟩
      · cases hf
    | _ => cases hf
  | lst xs => exact .inr (.inr (.inr (catL w rx ry hf k)))
  | loc n => exact .inr (.inr (.inr (catL w rx ry hf k)))
  | _ => cases hf
def rMulA : R2 := fun x y H Q => (rI CMul fun i j => .int (i * j)) x y H Q ∨ rRep x y H Q
theorem op_mulA : OpR X (binaryOp .Mult) rMulA := OpR.or op_mul op_rep
theorem Reps.flat {H0 : Hb} {as : List Addr} {ds : List D} {vs : List V} (r : Reps C H0 as ds vs) : ∀ n, Reps C H0 as (List.replicate n ds).flatten (List.replicate n vs).flatten
  | 0 => rfl
  | n + 1 => by
    rw [List.replicate_succ, List.replicate_succ, List.flatten_cons, List.flatten_cons]
    exact r.append (Reps.flat r n)
theorem ok_mul {mu : Bool} : Ok2 C rMulA (fMul mu) := by
  intro H0 as st H dx dy x y d st' Q w rx ry hf k
  have lists : ∀ i : Int, dy = .int i → ((lookL dx st).bind fun xs => if small i = true ∧ xs.length * i.toNat ≤ sizeLine then some (alloc mu (List.replicate i.toNat xs).flatten st) else none) = some (d, st') → rMulA x y H Q := by
    intro i e hf'
    clear hf
    have hf := hf'
    subst e
    cases rep_int ry
    obtain ⟨xs, hx, hf⟩ := Option.bind_eq_some_iff.mp hf
    obtain ⟨a, vs, rfl, ha, r1⟩ := lookL_seq w rx hx
    split at hf
    · rename_i hl
      have hf := Option.some.inj hf
      have hs := small_le hl.1
      have e63 : (2 : Int) ^ 63 = 9223372036854775808 := by decide
      exact .inr ⟨a, i, vs, rfl, rfl, ha, by omega, by omega, by rw [← r1.length]; exact hl.2, k.newA hf w (r1.flat _)⟩
    · cases hf
  cases dy with
  | int j =>
    cases dx with
    | int i =>
      cases rep_int rx
      cases rep_int ry
      unfold fMul at hf
      dsimp only at hf
      split at hf
      · rename_i hc
        cases hf
        exact .inl ⟨i, j, rfl, rfl, by
          have e64 : (2 : Int) ^ 64 = 18446744073709551616 := by decide
          rcases Bool.or_eq_true _ _ ▸ hc with h | h
          · have := small_le h
            exact .inl (by omega)
          · have := small_le h
            exact .inr (by omega), k.val w rfl⟩
      · cases hf
    | lst xs => exact lists j rfl hf
    | loc n => exact lists j rfl hf
    | _ => cases hf
  | _ => cases dx <;> cases hf
def rLtA : R2 := fun x y H Q => (rI0 fun i j => .bl (decide (i < j))) x y H Q ∨ (∃ i j, x = .str i ∧ y = .str j ∧ Q (.bl (decide (i.cps.toList < j.cps.toList))) H)
theorem op_ltA : OpR X (compareOp .Lt) rLtA := OpR.or op_lt op_lt_str
theorem ok_lt : Ok2 C rLtA fLt := by
  intro H0 as st H dx dy x y d st' Q w rx ry hf k
  cases dx with
  | int i =>
    cases dy with
    | int j =>
      cases rep_int rx
      cases rep_int ry
      cases hf
      exact .inl ⟨i, j, rfl, rfl, k.val w rfl⟩
    | _ => cases hf
  | str i =>
    cases dy with
    | str j =>
      cases rep_str rx
      cases rep_str ry
      cases hf
      exact .inr ⟨i, j, rfl, rfl, k.val w rfl⟩
    | _ => cases hf
  | _ => cases hf
/-! == -/
def rEqA (K : PySem.W.Frag) : R2 := fun x y H Q => rEq x y H Q ∨ rEqD K x y H Q
def rNeA (K : PySem.W.Frag) : R2 := fun x y H Q => rNe x y H Q ∨ rNeD K x y H Q
theorem op_eqA (hu : X.A.units + 64 < cLine) : OpR X (compareOp .Eq) (rEqA X.K) := OpR.or op_eq (op_eqD hu)
theorem op_neA (hu : X.A.units + 64 < cLine) : OpR X (compareOp .NotEq) (rNeA X.K) := OpR.or op_ne (op_neD hu)
theorem eqD_ok {H0 : Hb} {as : List Addr} {st : Sto} {H : Hp} {dx dy : D} {x y : V} {b : Bool} (w : WR C H0 as st H) (rx : Rep C H0 as dx x) (ry : Rep C H0 as dy y) (h : eqD dx dy st = some b) :
    (scal x y = true ∧ decide (x = y) = b) ∨ ∃ d e, Dp C.K H x d ∧ Dp C.K H y e ∧ SeqAt.shaped d = true ∧ SeqAt.shaped e = true ∧ PyData.eqv d e = b := by
  have gen : ((dat dx st).bind fun p => (dat dy st).bind fun q => if SeqAt.shaped p = true ∧ SeqAt.shaped q = true then some (PyData.eqv p q) else none) = some b → ∃ d e, Dp C.K H x d ∧ Dp C.K H y e ∧ SeqAt.shaped d = true ∧ SeqAt.shaped e = true ∧ PyData.eqv d e = b := by
    intro h
    obtain ⟨p, hp, h⟩ := Option.bind_eq_some_iff.mp h
    obtain ⟨q, hq, h⟩ := Option.bind_eq_some_iff.mp h
    split at h
    · rename_i hs
      exact ⟨p, q, dat_dp w hp rx, dat_dp w hq ry, hs.1, hs.2, Option.some.inj h⟩
    · cases h
  unfold eqD at h
  split at h
  · rename_i i j
    cases rep_int rx
    cases rep_int ry
    refine .inl ⟨rfl, ?_⟩
    rw [← Option.some.inj h, dec_int]
    rfl
  · cases rep_str rx
    cases rep_str ry
    refine .inl ⟨rfl, ?_⟩
    rw [← Option.some.inj h, dec_str]
    exact Bool.beq_eq_decide_eq _ _
  · cases rep_bl rx
    cases rep_bl ry
    refine .inl ⟨rfl, ?_⟩
    rw [← Option.some.inj h, dec_bl]
    exact Bool.beq_eq_decide_eq _ _
  · exact .inr (gen h)
theorem ok_eq : Ok2 C (rEqA C.K) fEq := by
  intro H0 as st H dx dy x y d st' Q w rx ry hf k
  obtain ⟨b, hb, e⟩ := Option.map_eq_some_iff.mp hf
  cases e
  rcases eqD_ok w rx ry hb with ⟨h1, h2⟩ | ⟨p, q, h1, h2, h3, h4, h5⟩
  · exact .inl ⟨h1, k.val w (by rw [h2]; rfl)⟩
  · exact .inr ⟨p, q, h1, h2, h3, h4, k.val w (by rw [h5]; rfl)⟩
theorem ok_ne : Ok2 C (rNeA C.K) fNe := by
  intro H0 as st H dx dy x y d st' Q w rx ry hf k
  obtain ⟨b, hb, e⟩ := Option.map_eq_some_iff.mp hf
  cases e
  rcases eqD_ok w rx ry hb with ⟨h1, h2⟩ | ⟨p, q, h1, h2, h3, h4, h5⟩
  · exact .inl ⟨h1, k.val w (by rw [h2]; rfl)⟩
  · exact .inr ⟨p, q, h1, h2, h3, h4, k.val w (by rw [h5]; rfl)⟩
/-! in -/
theorem flat_ok {H0 : Hb} {as : List Addr} {d : D} {x : V} (r : Rep C H0 as d x) (h : flatD d = true) : flatV x = true ∧ ∀ e y, Rep C H0 as e y → flatD e = true → eqV y x = eqF e d := by
  cases d with
  | non => cases (show x = .non from r); exact ⟨rfl, fun e y re he => by cases e <;> first | (cases he; done) | (cases (show y = _ from re); rfl)⟩
  | bl b => cases (show x = .bl b from r); exact ⟨rfl, fun e y re he => by cases e <;> first | (cases he; done) | (cases (show y = _ from re); rfl)⟩
  | int b => cases (show x = .int b from r); exact ⟨rfl, fun e y re he => by cases e <;> first | (cases he; done) | (cases (show y = _ from re); rfl)⟩
  | str b => cases (show x = .str b from r); exact ⟨rfl, fun e y re he => by cases e <;> first | (cases he; done) | (cases (show y = _ from re); rfl)⟩
  | _ => cases h
theorem inD_ok {H0 : Hb} {as : List Addr} {d : D} {x : V} (r : Rep C H0 as d x) (h : flatD d = true) : ∀ {ds : List D} {vs : List V}, Reps C H0 as ds vs → ds.all flatD = true → vs.all flatV = true ∧ inV x vs = inD d ds
  | [], vs, hr, _ => by
    cases (show vs = [] from hr)
    exact ⟨rfl, rfl⟩
  | e :: ds, vs, hr, ha => by
    obtain ⟨v, r', rfl, h1, h2⟩ := hr
    rw [List.all_cons, Bool.and_eq_true] at ha
    obtain ⟨i1, i2⟩ := inD_ok r h h2 ha.2
    refine ⟨by rw [List.all_cons, (flat_ok h1 ha.1).1, i1]; rfl, ?_⟩
    unfold inV inD at *
    rw [List.any_cons, List.any_cons, i2, (flat_ok r h).2 e v h1 ha.1]
theorem ok_in {neg : Bool} : Ok2 C (rIn C.K neg) (fIn neg) := by
  intro H0 as st H dx dy x y d st' Q w rx ry hf k
  obtain ⟨ds, hd, hf⟩ := Option.bind_eq_some_iff.mp hf
  split at hf
  · rename_i hc
    cases hf
    obtain ⟨a, vs, rfl, hs, hr⟩ := look_seq w ry hd
    obtain ⟨h1, h2⟩ := inD_ok rx hc.1 hr hc.2
    exact ⟨a, vs, rfl, hs, (flat_ok rx hc.1).1, h1, k.val w (by rw [h2]; cases neg <;> rfl)⟩
  · cases hf
theorem isNon_ok {H0 : Hb} {as : List Addr} {d : D} {x : V} (r : Rep C H0 as d x) : decide (x = .non) = isNon d := by
  cases d with
  | non => cases (show x = .non from r); rfl
  | bl b => cases (show x = .bl b from r); rfl
  | int b => cases (show x = .int b from r); rfl
  | str b => cases (show x = .str b from r); rfl
  | ty b => cases (show x = .ty b from r); rfl
  | adr b => cases (show x = .ref b from r); rfl
  | tup ds => obtain ⟨a, _, rfl, _⟩ := r; rfl
  | lst ds => obtain ⟨a, _, rfl, _⟩ := r; rfl
  | fro ds => obtain ⟨a, _, rfl, _⟩ := r; rfl
  | loc n => obtain ⟨a, _, rfl⟩ := r; rfl
  | fdk n ks ds => obtain ⟨a, _, _, _, rfl, _⟩ := r; rfl
  | set ns => obtain ⟨a, _, _, rfl, _⟩ := r; rfl
  | fn x => obtain ⟨a, rfl, _⟩ := r; rfl
theorem ok_isN : Ok2 C (fun x y H Q => y = .non ∧ Q (.bl (decide (x = .non))) H) (fIsN false) := by
  intro H0 as st H dx dy x y d st' Q w rx ry hf k
  unfold fIsN at hf
  split at hf
  · cases hf
    exact ⟨ry, k.val w (by rw [isNon_ok rx]; rfl)⟩
  · cases hf
theorem ok_notN : Ok2 C (fun x y H Q => y = .non ∧ Q (.bl (!decide (x = .non))) H) (fIsN true) := by
  intro H0 as st H dx dy x y d st' Q w rx ry hf k
  unfold fIsN at hf
  split at hf
  · cases hf
    exact ⟨ry, k.val w (by rw [isNon_ok rx]; rfl)⟩
  · cases hf
theorem ok_neg : Ok1 C (rU fun i => .int (-i)) fNeg := by
  intro H0 as st H dx x d st' Q w rx hf k
  cases dx with
  | int i =>
    cases rep_int rx
    cases hf
    exact ⟨i, rfl, k.val w rfl⟩
  | _ => cases hf
/-! subscripts -/
def rIxA (K : PySem.W.Frag) : R2 := fun x y H Q => rIxL K x y H Q ∨ rIxT K x y H Q
theorem ix_A : IxR X (rIxA X.K) := IxR.or ix_list ix_tup
theorem atI_rep {H0 : Hb} {as : List Addr} {ds : List D} {vs : List V} {i : Int} {d : D} (r : Reps C H0 as ds vs) (h : atI ds i = some d) : ∃ v, atI vs i = some v ∧ Rep C H0 as d v := by
  unfold atI at h ⊢
  rw [← r.length]
  obtain ⟨j, hj, h⟩ := Option.bind_eq_some_iff.mp h
  obtain ⟨v, hv, h2⟩ := r.get h
  exact ⟨v, by rw [hj]; exact hv, h2⟩
theorem ok_ix : Ok2 C (rIxA C.K) fIx := by
  intro H0 as st H dx dy x y d st' Q w rx ry hf k
  cases dy with
  | int i =>
    cases rep_int ry
    obtain ⟨ds, hd, hf⟩ := Option.bind_eq_some_iff.mp hf
    obtain ⟨e, he, h3⟩ := Option.map_eq_some_iff.mp hf
    cases h3
    obtain ⟨a, vs, rfl, hs, hr⟩ := look_seq w rx hd
    obtain ⟨v, hv, hr2⟩ := atI_rep hr he
    rcases hs with hs | hs
    · exact .inl ⟨a, vs, i, v, rfl, rfl, hs, hv, k.val w hr2⟩
    · exact .inr ⟨a, vs, i, v, rfl, rfl, hs, hv, k.val w hr2⟩
  | _ => cases hf
end
end My


namespace My
open PySem PySem.Spec PyProof.Rows L2

/-! ### built-in functions on data -/
def intsOf : List D → Option (List Int)
  | [] => some []
  | .int i :: ds => (intsOf ds).map (i :: ·)
  | _ :: _ => none
def boolsOf : List D → Option (List Bool)
  | [] => some []
  | .bl i :: ds => (boolsOf ds).map (i :: ·)
  | _ :: _ => none
theorem intsOf_eq : ∀ {ds : List D} {ns : List Int}, intsOf ds = some ns → ds = ns.map D.int
  | [], ns, h => by
    cases h
    rfl
  | d :: ds, ns, h => by
    cases d with
    | int i =>
      unfold intsOf at h
      obtain ⟨ms, hm, rfl⟩ := Option.map_eq_some_iff.mp h
      rw [intsOf_eq hm]
      rfl
    | _ => cases h
theorem boolsOf_eq : ∀ {ds : List D} {ns : List Bool}, boolsOf ds = some ns → ds = ns.map D.bl
  | [], ns, h => by
    cases h
    rfl
  | d :: ds, ns, h => by
    cases d with
    | bl i =>
      unfold boolsOf at h
      obtain ⟨ms, hm, rfl⟩ := Option.map_eq_some_iff.mp h
      rw [boolsOf_eq hm]
      rfl
    | _ => cases h
theorem intsOf_map : ∀ (ns : List Int), intsOf (ns.map D.int) = some ns
  | [] => rfl
  | n :: ns => by
    show (intsOf (ns.map D.int)).map (n :: ·) = _
    rw [intsOf_map ns]
    rfl
theorem boolsOf_map : ∀ (ns : List Bool), boolsOf (ns.map D.bl) = some ns
  | [] => rfl
  | n :: ns => by
    show (boolsOf (ns.map D.bl)).map (n :: ·) = _
    rw [boolsOf_map ns]
    rfl
theorem Reps.bools {C : Cy} {H : Hb} {as : List Addr} {ns : List Bool} {vs : List V} (h : Reps C H as (ns.map D.bl) vs) : vs = ns.map V.bl := by
  induction ns generalizing vs with
  | nil => exact h
  | cons n ns ih =>
    obtain ⟨v, r, rfl, h1, h2⟩ := h
    have h1 : v = .bl n := h1
    rw [h1, ih h2]
    rfl
/-- ascending -/
def sortI (ns : List Int) : List Int := ns.mergeSort fun a b => decide (a ≤ b)
theorem sortI_perm (ns : List Int) : (sortI ns).Perm ns := List.mergeSort_perm ns _
theorem sortI_pair (ns : List Int) : (sortI ns).Pairwise (· ≤ ·) := by
  have h := List.pairwise_mergeSort (le := fun a b : Int => decide (a ≤ b)) (fun a b c h1 h2 => by simp at *; omega) (fun a b => by simp; omega) ns
  exact h.imp fun h => of_decide_eq_true h
theorem sort_uniq : ∀ {as bs : List Int}, as.Perm bs → as.Pairwise (· ≤ ·) → bs.Pairwise (· ≤ ·) → as = bs
  | [], bs, p, _, _ => (List.nil_perm.mp p).symm
  | a :: as, bs, p, h1, h2 => by
    cases bs with
    | nil => exact absurd p.symm (List.not_perm_nil_cons a as)
    | cons b bs =>
      have hab : a = b := by
        have m1 : a ∈ b :: bs := p.mem_iff.mp (by simp)
        have m2 : b ∈ a :: as := p.mem_iff.mpr (by simp)
        rcases List.mem_cons.mp m1 with e | m1
        · exact e
        · rcases List.mem_cons.mp m2 with e | m2
          · exact e.symm
          · have l1 := List.rel_of_pairwise_cons h1 m2
            have l2 := List.rel_of_pairwise_cons h2 m1
            omega
      subst hab
      rw [sort_uniq (List.Perm.cons_inv p) h1.of_cons h2.of_cons]
theorem sortI_eq {ns ms : List Int} (p : ms.Perm ns) (h : ms.Pairwise (· ≤ ·)) : ms = sortI ns := sort_uniq (p.trans (sortI_perm ns).symm) h (sortI_pair ns)

def fLen (ds : List D) (st : Sto) : Option (D × Sto) := match ds with
  | [.str x] => if x.length ≤ sizeLine then some (.int x.length, st) else none
  | [d] => (look d st).map fun es => (.int es.length, st)
  | _ => none
def fInt (ds : List D) (st : Sto) : Option (D × Sto) := match ds with
  | [.int i] => some (.int i, st)
  | [.bl b] => some (.int (if b then 1 else 0), st)
  | _ => none
def fAbs (ds : List D) (st : Sto) : Option (D × Sto) := match ds with
  | [.int i] => some (.int (if i < 0 then -i else i), st)
  | _ => none
def fMax (ds : List D) (st : Sto) : Option (D × Sto) := match ds with
  | [.int i, .int j] => some (.int (if j > i then j else i), st)
  | [d] => (look d st).bind fun es => (intsOf es).bind fun ns => ns.max?.map fun m => (.int m, st)
  | _ => none
def fMin (ds : List D) (st : Sto) : Option (D × Sto) := match ds with
  | [.int i, .int j] => some (.int (if j < i then j else i), st)
  | [d] => (look d st).bind fun es => (intsOf es).bind fun ns => ns.min?.map fun m => (.int m, st)
  | _ => none
def fTuple (ds : List D) (st : Sto) : Option (D × Sto) := match ds with
  | [d] => (look d st).map fun es => (.tup es, st)
  | _ => none
def fList (mu : Bool) (ds : List D) (st : Sto) : Option (D × Sto) := match ds with
  | [d] => (look d st).map fun es => alloc mu es st
  | _ => none
def fSorted (mu : Bool) (ds : List D) (st : Sto) : Option (D × Sto) := match ds with
  | [d] => (lookL d st).bind fun es => (intsOf es).map fun ns => alloc mu ((sortI ns).map D.int) st
  | _ => none
def fSum (ds : List D) (st : Sto) : Option (D × Sto) := match ds with
  | [d] => (lookL d st).bind fun es => (intsOf es).map fun ns => (.int ns.sum, st)
  | _ => none
def fAll (ds : List D) (st : Sto) : Option (D × Sto) := match ds with
  | [d] => (lookL d st).bind fun es => (boolsOf es).map fun ns => (.bl (ns.all id), st)
  | _ => none
def fAny (ds : List D) (st : Sto) : Option (D × Sto) := match ds with
  | [d] => (lookL d st).bind fun es => (boolsOf es).map fun ns => (.bl (ns.any id), st)
  | _ => none
def fGcd (ds : List D) (st : Sto) : Option (D × Sto) := match ds with
  | [.int i, .int j] => some (.int ((Nat.gcd i.natAbs j.natAbs : Nat) : Int), st)
  | _ => none
/-- a value's type -/
def tyD (d : D) (st : Sto) : Option String := match d with
  | .non => some "NoneType"
  | .bl _ => some "bool"
  | .int _ => some "int"
  | .str _ => some "str"
  | .tup _ => some "tuple"
  | .lst _ => some "list"
  | .loc n => match st[n]? with
    | some (.lst _) => some "list"
    | some (.dK _) => some "dict"
    | some (.dT _) => some "dict"
    | _ => none
  | _ => none
def isi (a b : String) : Option Bool := match b with
  | "int" => some (a == "int" || a == "bool")
  | "bool" => some (a == "bool")
  | "str" => some (a == "str")
  | "tuple" => some (a == "tuple")
  | "list" => some (a == "list")
  | "dict" => some (a == "dict")
  | _ => none
def tyOk (a : String) : Bool := a == "NoneType" || a == "bool" || a == "int" || a == "str" || a == "tuple" || a == "list" || a == "dict"
def fIsi (ds : List D) (st : Sto) : Option (D × Sto) := match ds with
  | [d, .ty n] => (tyD d st).bind fun t => (isi t n).map fun b => (.bl b, st)
  | _ => none

section
variable {C : Cy} {X : Cx}
theorem reps1 {H : Hb} {as : List Addr} {d : D} {vs : List V} (r : Reps C H as [d] vs) : ∃ v, vs = [v] ∧ Rep C H as d v := by
  obtain ⟨v, r', rfl, h, e⟩ := r
  cases (show r' = [] from e)
  exact ⟨v, rfl, h⟩
theorem reps2 {H : Hb} {as : List Addr} {d d' : D} {vs : List V} (r : Reps C H as [d, d'] vs) : ∃ v v', vs = [v, v'] ∧ Rep C H as d v ∧ Rep C H as d' v' := by
  obtain ⟨v, r', rfl, h, e⟩ := r
  obtain ⟨v', rfl, h'⟩ := reps1 e
  exact ⟨v, v', rfl, h, h'⟩
def rLenA (K : PySem.W.Frag) : List V → Hp → VK → Prop := fun xs H Q => (∃ p ys, xs = [.ref p] ∧ (SqL K H p ys ∨ SqT K H p ys) ∧ Q (.int ys.length) H) ∨ ∃ z, xs = [.str z] ∧ z.length ≤ sizeLine ∧ Q (.int z.length) H
theorem call_lenA : CallR X (.builtin "len") (rLenA X.K) := CallR.or call_len_seq call_len_str
theorem ok_len : OkC C (rLenA C.K) fLen := by
  intro H0 as st H ds vs d st' Q w r hf k
  unfold fLen at hf
  split at hf
  · obtain ⟨v, rfl, rv⟩ := reps1 r
    cases rep_str rv
    split at hf
    · rename_i hl
      cases hf
      exact .inr ⟨_, rfl, hl, k.val w rfl⟩
    · cases hf
  · obtain ⟨v, rfl, rv⟩ := reps1 r
    obtain ⟨es, he, e⟩ := Option.map_eq_some_iff.mp hf
    cases e
    obtain ⟨a, us, rfl, hs, hr⟩ := look_seq w rv he
    exact .inl ⟨a, us, rfl, hs, k.val w (by rw [hr.length]; rfl)⟩
  · cases hf
theorem ok_int : OkC C (fun xs H Q => (∃ i, xs = [.int i] ∧ Q (.int i) H) ∨ ∃ k, xs = [.bl k] ∧ Q (.int (if k then 1 else 0)) H) fInt := by
  intro H0 as st H ds vs d st' Q w r hf k
  unfold fInt at hf
  split at hf
  · obtain ⟨v, rfl, rv⟩ := reps1 r
    cases rep_int rv
    cases hf
    exact .inl ⟨_, rfl, k.val w rfl⟩
  · obtain ⟨v, rfl, rv⟩ := reps1 r
    cases rep_bl rv
    cases hf
    exact .inr ⟨_, rfl, k.val w rfl⟩
  · cases hf
theorem ok_abs : OkC C (fun xs H Q => ∃ i, xs = [.int i] ∧ Q (.int (if i < 0 then -i else i)) H) fAbs := by
  intro H0 as st H ds vs d st' Q w r hf k
  unfold fAbs at hf
  split at hf
  · obtain ⟨v, rfl, rv⟩ := reps1 r
    cases rep_int rv
    cases hf
    exact ⟨_, rfl, k.val w rfl⟩
  · cases hf
def rMaxA (K : PySem.W.Frag) : List V → Hp → VK → Prop := fun xs H Q => (∃ i j, xs = [.int i, .int j] ∧ Q (.int (if j > i then j else i)) H) ∨ rMax K xs H Q
def rMinA (K : PySem.W.Frag) : List V → Hp → VK → Prop := fun xs H Q => (∃ i j, xs = [.int i, .int j] ∧ Q (.int (if j < i then j else i)) H) ∨ rMin K xs H Q
theorem call_maxA (hc : X.calm = true) : CallR X (.builtin "max") (rMaxA X.K) := CallR.or (call_max2 hc) (cr_max hc)
theorem call_minA (hc : X.calm = true) : CallR X (.builtin "min") (rMinA X.K) := CallR.or (call_min2 hc) (cr_min hc)
def fMaxL (ds : List D) (st : Sto) : Option (D × Sto) := match ds with
  | [.int i, .int j] => some (.int (if j > i then j else i), st)
  | [d] => (lookL d st).bind fun es => (intsOf es).bind fun ns => ns.max?.map fun m => (.int m, st)
  | _ => none
def fMinL (ds : List D) (st : Sto) : Option (D × Sto) := match ds with
  | [.int i, .int j] => some (.int (if j < i then j else i), st)
  | [d] => (lookL d st).bind fun es => (intsOf es).bind fun ns => ns.min?.map fun m => (.int m, st)
  | _ => none
theorem ok_max : OkC C (rMaxA C.K) fMaxL := by
  intro H0 as st H ds vs d st' Q w r hf k
  unfold fMaxL at hf
  split at hf
  · obtain ⟨v, v', rfl, rv, rv'⟩ := reps2 r
    cases rep_int rv
    cases rep_int rv'
    cases hf
    exact .inl ⟨_, _, rfl, k.val w rfl⟩
  · obtain ⟨v, rfl, rv⟩ := reps1 r
    obtain ⟨es, he, hf⟩ := Option.bind_eq_some_iff.mp hf
    obtain ⟨ns, hn, hf⟩ := Option.bind_eq_some_iff.mp hf
    obtain ⟨m, hm, e⟩ := Option.map_eq_some_iff.mp hf
    cases e
    obtain ⟨a, us, rfl, hs, hr⟩ := lookL_seq w rv he
    rw [intsOf_eq hn] at hr
    rw [hr.ints] at hs
    obtain ⟨m1, m2⟩ := List.max?_eq_some_iff.mp hm
    refine .inr ⟨a, ns, rfl, SqL.of hs, ?_, fun m' h1 h2 => ?_⟩
    · cases ns with
      | nil => cases hm
      | cons _ _ => exact Nat.succ_pos _
    · have e : m' = m := Int.le_antisymm (m2 m' h1) (h2 m m1)
      exact k.val w (by rw [e]; rfl)
  · cases hf
theorem ok_min : OkC C (rMinA C.K) fMinL := by
  intro H0 as st H ds vs d st' Q w r hf k
  unfold fMinL at hf
  split at hf
  · obtain ⟨v, v', rfl, rv, rv'⟩ := reps2 r
    cases rep_int rv
    cases rep_int rv'
    cases hf
    exact .inl ⟨_, _, rfl, k.val w rfl⟩
  · obtain ⟨v, rfl, rv⟩ := reps1 r
    obtain ⟨es, he, hf⟩ := Option.bind_eq_some_iff.mp hf
    obtain ⟨ns, hn, hf⟩ := Option.bind_eq_some_iff.mp hf
    obtain ⟨m, hm, e⟩ := Option.map_eq_some_iff.mp hf
    cases e
    obtain ⟨a, us, rfl, hs, hr⟩ := lookL_seq w rv he
    rw [intsOf_eq hn] at hr
    rw [hr.ints] at hs
    obtain ⟨m1, m2⟩ := List.min?_eq_some_iff.mp hm
    refine .inr ⟨a, ns, rfl, SqL.of hs, ?_, fun m' h1 h2 => ?_⟩
    · cases ns with
      | nil => cases hm
      | cons _ _ => exact Nat.succ_pos _
    · have e : m' = m := Int.le_antisymm (h2 m m1) (m2 m' h1)
      exact k.val w (by rw [e]; rfl)
  · cases hf
theorem ok_tuple : OkC C (fun xs H Q => ∃ p ys, xs = [.ref p] ∧ ((SqL C.K H p ys ∧ ∀ l, H l = none → Q (.ref l) (upd H l (.tup ys))) ∨ (SqT C.K H p ys ∧ Q (.ref p) H))) fTuple := by
  intro H0 as st H ds vs d st' Q w r hf k
  unfold fTuple at hf
  split at hf
  · rename_i d0
    obtain ⟨v, rfl, rv⟩ := reps1 r
    obtain ⟨es, he, e⟩ := Option.map_eq_some_iff.mp hf
    cases e
    cases d0 with
    | tup fs =>
      cases he
      obtain ⟨a, us, rfl, hs, hr⟩ := rv
      exact ⟨a, us, rfl, .inr ⟨same_seqT w.ex hs, k.val w ⟨a, us, rfl, hs, hr⟩⟩⟩
    | lst fs =>
      cases he
      obtain ⟨a, us, rfl, hs, hr⟩ := rv
      exact ⟨a, us, rfl, .inl ⟨SqL.of (w.ex _ _ hs), k.newT w hr⟩⟩
    | fro fs =>
      cases he
      obtain ⟨a, us, rfl, hs, hr⟩ := rv
      exact ⟨a, us, rfl, .inl ⟨w.ex.seq hs, k.newT w hr⟩⟩
    | loc n =>
      obtain ⟨a, us, rfl, hs, hr⟩ := lookL_seq w rv (d := .loc n) he
      exact ⟨a, us, rfl, .inl ⟨SqL.of hs, k.newT w hr⟩⟩
    | _ => cases he
  · cases hf
theorem ok_list {mu : Bool} : OkC C (fun xs H Q => ∃ p ys, xs = [.ref p] ∧ (SqL C.K H p ys ∨ SqT C.K H p ys) ∧ ∀ l, H l = none → Q (.ref l) (upd H l (.lst ys))) (fList mu) := by
  intro H0 as st H ds vs d st' Q w r hf k
  unfold fList at hf
  split at hf
  · obtain ⟨v, rfl, rv⟩ := reps1 r
    obtain ⟨es, he, e⟩ := Option.map_eq_some_iff.mp hf
    obtain ⟨a, us, rfl, hs, hr⟩ := look_seq w rv he
    exact ⟨a, us, rfl, hs, k.newA e w hr⟩
  · cases hf
theorem ok_sorted {mu : Bool} : OkC C (rSortedI C.K) (fSorted mu) := by
  intro H0 as st H ds vs d st' Q w r hf k
  unfold fSorted at hf
  split at hf
  · obtain ⟨v, rfl, rv⟩ := reps1 r
    obtain ⟨es, he, hf⟩ := Option.bind_eq_some_iff.mp hf
    obtain ⟨ns, hn, e⟩ := Option.map_eq_some_iff.mp hf
    obtain ⟨a, us, rfl, hs, hr⟩ := lookL_seq w rv he
    rw [intsOf_eq hn] at hr
    rw [hr.ints] at hs
    refine ⟨a, ns, rfl, SqL.of hs, fun ns' p hp hw hfr => ?_⟩
    rw [sortI_eq hp hw]
    exact k.newA e w (Reps.of_ints _) p hfr
  · cases hf
theorem ok_sum : OkC C (rSum C.K) fSum := by
  intro H0 as st H ds vs d st' Q w r hf k
  unfold fSum at hf
  split at hf
  · obtain ⟨v, rfl, rv⟩ := reps1 r
    obtain ⟨es, he, hf⟩ := Option.bind_eq_some_iff.mp hf
    obtain ⟨ns, hn, e⟩ := Option.map_eq_some_iff.mp hf
    cases e
    obtain ⟨a, us, rfl, hs, hr⟩ := lookL_seq w rv he
    rw [intsOf_eq hn] at hr
    rw [hr.ints] at hs
    exact ⟨a, ns, rfl, SqL.of hs, k.val w rfl⟩
  · cases hf
theorem ok_all : OkC C (rAll C.K) fAll := by
  intro H0 as st H ds vs d st' Q w r hf k
  unfold fAll at hf
  split at hf
  · obtain ⟨v, rfl, rv⟩ := reps1 r
    obtain ⟨es, he, hf⟩ := Option.bind_eq_some_iff.mp hf
    obtain ⟨ns, hn, e⟩ := Option.map_eq_some_iff.mp hf
    cases e
    obtain ⟨a, us, rfl, hs, hr⟩ := lookL_seq w rv he
    rw [boolsOf_eq hn] at hr
    rw [hr.bools] at hs
    exact ⟨a, ns, rfl, SqL.of hs, k.val w rfl⟩
  · cases hf
theorem ok_any : OkC C (rAny C.K) fAny := by
  intro H0 as st H ds vs d st' Q w r hf k
  unfold fAny at hf
  split at hf
  · obtain ⟨v, rfl, rv⟩ := reps1 r
    obtain ⟨es, he, hf⟩ := Option.bind_eq_some_iff.mp hf
    obtain ⟨ns, hn, e⟩ := Option.map_eq_some_iff.mp hf
    cases e
    obtain ⟨a, us, rfl, hs, hr⟩ := lookL_seq w rv he
    rw [boolsOf_eq hn] at hr
    rw [hr.bools] at hs
    exact ⟨a, ns, rfl, SqL.of hs, k.val w rfl⟩
  · cases hf
theorem ok_gcd : OkC C rGcd fGcd := by
  intro H0 as st H ds vs d st' Q w r hf k
  unfold fGcd at hf
  split at hf
  · obtain ⟨v, v', rfl, rv, rv'⟩ := reps2 r
    cases rep_int rv
    cases rep_int rv'
    cases hf
    exact ⟨_, _, rfl, k.val w rfl⟩
  · cases hf
/-- isinstance -/
theorem rd_tup {K : PySem.W.Frag} {H : Hp} {a : Addr} {vs : List V} (h : SqT K H a vs) : TyX K H (.ref a) (.type "tuple") := by
  rcases h with (h | ⟨o, h⟩) | ⟨o, its, n, h, hc, _⟩
  · exact .base (.tup h)
  · exact .fTuple h
  · exact .kTuple h hc
theorem tyD_ok {H0 : Hb} {as : List Addr} {st : Sto} {H : Hp} {d : D} {v : V} {t : String} (w : WR C H0 as st H) (r : Rep C H0 as d v) (h : tyD d st = some t) : TyX C.K H v (.type t) ∧ tyOk t = true := by
  cases d with
  | non => cases h; cases (show v = .non from r); exact ⟨.base .non, rfl⟩
  | bl b => cases h; cases (show v = .bl b from r); exact ⟨.base (.bl b), rfl⟩
  | int b => cases h; cases (show v = .int b from r); exact ⟨.base (.int b), rfl⟩
  | str b => cases h; cases (show v = .str b from r); exact ⟨.base (.str b), rfl⟩
  | tup ds =>
    cases h
    obtain ⟨a, vs, rfl, hs, _⟩ := r
    exact ⟨rd_tup (same_seqT w.ex hs), rfl⟩
  | lst ds =>
    cases h
    obtain ⟨a, vs, rfl, hs, _⟩ := r
    exact ⟨.base (.lst (w.ex _ _ hs)), rfl⟩
  | loc n =>
    obtain ⟨a, ha, rfl⟩ := r
    unfold tyD at h
    dsimp only at h
    split at h
    all_goals first | (cases h; done) | skip
    all_goals rename_i he
    all_goals cases h
    all_goals have hl := (List.getElem?_eq_some_iff.mp ha).1
    all_goals rcases w.own n a _ ha he with z | ⟨z, ho, h1, vs, rfl, h2⟩
    all_goals first | (cases z; done) | skip
    · exact ⟨.base (.lst h1), rfl⟩
    · exact ⟨.base (.dK h1), rfl⟩
    · exact ⟨.base (.dT h1), rfl⟩
  | _ => cases h
theorem kit_all : ∀ a ∈ ["NoneType", "bool", "int", "str", "tuple", "list", "dict"], ∀ b ∈ ["int", "bool", "str", "tuple", "list", "dict"], kitB a b = isi a b := by decide +kernel
theorem isi_in {a b : String} {r : Bool} (h : isi a b = some r) : b ∈ ["int", "bool", "str", "tuple", "list", "dict"] := by
  unfold isi at h
  split at h <;> first | (cases h; done) | simp
theorem tyOk_in {a : String} (h : tyOk a = true) : a ∈ ["NoneType", "bool", "int", "str", "tuple", "list", "dict"] := by
  unfold tyOk at h
  simp only [Bool.or_eq_true, beq_iff_eq, or_assoc] at h
  simp only [List.mem_cons, List.not_mem_nil, or_false]
  exact h
theorem ok_isi : OkC C (rIsi C.K) fIsi := by
  intro H0 as st H ds vs d st' Q w r hf k
  unfold fIsi at hf
  split at hf
  · rename_i d0 n
    obtain ⟨v, v', rfl, rv, rv'⟩ := reps2 r
    cases (show v' = .ty n from rv')
    obtain ⟨t, ht, hf⟩ := Option.bind_eq_some_iff.mp hf
    obtain ⟨b, hb, e⟩ := Option.map_eq_some_iff.mp hf
    cases e
    obtain ⟨h1, h2⟩ := tyD_ok w rv ht
    exact ⟨v, _, _, _, b, rfl, .ty n, h1, kit_ty ((kit_all _ (tyOk_in h2) _ (isi_in hb)).trans hb), k.val w rfl⟩
  · cases hf
end
end My


namespace My
open PySem PySem.Spec PyProof.Rows L2

/-! ### methods of lists -/
def mMt (f : D → List D → Sto → Option (D × Sto)) (a : ME) (r : MA) : ME := fun en st => (a en st).bind fun p => (lookL p.1 p.2).bind fun _ => (r en p.2).bind fun q => f p.1 q.1 q.2
def OkM (C : Cy) (r : V → List V → Hp → VK → Prop) (f : D → List D → Sto → Option (D × Sto)) : Prop := ∀ H0 as st H dx ds x vs d st' Q, WR C H0 as st H → Rep C H0 as dx x → Reps C H0 as ds vs → f dx ds st = some (d, st') → KE C H0 as st' d Q → r x vs H Q
def fAppend (a : D) (ds : List D) (st : Sto) : Option (D × Sto) := match a, ds with
  | .loc n, [d] => match st[n]? with
    | some (.lst es) => if es.length < sizeLine then some (.non, st.set n (.lst (es ++ [d]))) else none
    | _ => none
  | _, _ => none
def fPop (a : D) (ds : List D) (st : Sto) : Option (D × Sto) := match a, ds with
  | .loc n, [] => match st[n]? with
    | some (.lst es) => es[es.length - 1]?.map fun d => (d, st.set n (.lst es.dropLast))
    | _ => none
  | .loc n, [.int i] => match st[n]? with
    | some (.lst es) => if small i = true then (seqIndex? i es.length).bind fun k => es[k]?.map fun d => (d, st.set n (.lst (es.eraseIdx k))) else none
    | _ => none
  | _, _ => none
def fExtend (a : D) (ds : List D) (st : Sto) : Option (D × Sto) := match a, ds with
  | .loc n, [b] => match st[n]? with
    | some (.lst es) => (lookL b st).bind fun fs => if es.length + fs.length ≤ sizeLine then some (.non, st.set n (.lst (es ++ fs))) else none
    | _ => none
  | _, _ => none
section
variable {C : Cy} {X : Cx} {σ : L2.St} {H : Hp} {Q : VK} {ma mb : ME}
theorem em_mt {r : V → List V → Hp → VK → Prop} {f : D → List D → Sto → Option (D × Sto)} (ok : OkM C r f) {m : MA} : eM C (mMt f ma m) σ H Q → tBM C.K "list" r (eM C ma) (aM C m) σ H Q := by
  rintro ⟨H0, as, en, st, d, st', e, w, hm, k⟩
  unfold mMt at hm
  obtain ⟨⟨da, s1⟩, ha, hm⟩ := Option.bind_eq_some_iff.mp hm
  obtain ⟨ds, hl, hm⟩ := Option.bind_eq_some_iff.mp hm
  obtain ⟨⟨db, s2⟩, hb, hm⟩ := Option.bind_eq_some_iff.mp hm
  refine ⟨H0, as, en, st, da, s1, e, w, ha, fun x H1 as1 H1' l1 w1 r1 => ?_⟩
  obtain ⟨a, vs, rfl, hs, _⟩ := lookL_seq w1 r1 hl
  refine ⟨.inl ⟨rfl, vs, SqL.of hs⟩, H1, as1, en, s1, db, s2, e.mono l1, w1, hb, fun y H2 as2 H2' l2 w2 r2 => ?_⟩
  exact ok H2 as2 s2 H2' da db _ y d st' Q w2 (r1.mono l2) r2 hm (k.mono (l1.trans l2))
theorem em_mt0 {r : V → List V → Hp → VK → Prop} {f : D → List D → Sto → Option (D × Sto)} (ok : OkM C r f) : eM C (mMt f ma mNil) σ H Q → tBM0 C.K "list" r (eM C ma) σ H Q := by
  rintro ⟨H0, as, en, st, d, st', e, w, hm, k⟩
  unfold mMt at hm
  obtain ⟨⟨da, s1⟩, ha, hm⟩ := Option.bind_eq_some_iff.mp hm
  obtain ⟨ds, hl, hm⟩ := Option.bind_eq_some_iff.mp hm
  obtain ⟨⟨db, s2⟩, hb, hm⟩ := Option.bind_eq_some_iff.mp hm
  cases hb
  refine ⟨H0, as, en, st, da, s1, e, w, ha, fun x H1 as1 H1' l1 w1 r1 => ?_⟩
  obtain ⟨a, vs, rfl, hs, _⟩ := lookL_seq w1 r1 hl
  exact ⟨.inl ⟨rfl, vs, SqL.of hs⟩, ok H1 as1 s1 H1' da [] _ [] d st' Q w1 r1 rfl hm (k.mono l1)⟩
theorem KE.put {H0 : Hb} {as : List Addr} {st : Sto} {n : Nat} {a : Addr} {o : SO} {ho : HO} {d : D} {v : V} (k : KE C H0 as (st.set n o) d Q) (w : WR C H0 as st H) (ha : as[n]? = some a) (hn : H0.h a = none) (r : RepO C H0 as o ho) (hv : Rep C H0 as d v) : Q v (upd H a ho) :=
  k v H0 as _ Le.refl (w.put ha hn r) hv
theorem ok_append : OkM C rAppend fAppend := by
  intro H0 as st H dx ds x vs d st' Q w rx rs hf k
  unfold fAppend at hf
  split at hf
  · split at hf
    · rename_i he
      split at hf
      · rename_i hl
        cases hf
        obtain ⟨v, rfl, rv⟩ := reps1 rs
        obtain ⟨a, us, ha, hn, h1, hr⟩ := w.loc he
        obtain ⟨a', ha', rfl⟩ := rx
        rw [ha] at ha'
        cases ha'
        exact ⟨a, us, v, rfl, rfl, h1, by rw [← hr.length]; exact hl, k.put w ha hn ⟨_, rfl, hr.append (Reps.one rv)⟩ rfl⟩
      · cases hf
    · cases hf
  · cases hf
theorem Reps.init {H : Hb} {as : List Addr} {ds : List D} {vs : List V} (h : Reps C H as ds vs) : Reps C H as ds.dropLast vs.dropLast := by
  rw [List.dropLast_eq_take, List.dropLast_eq_take, h.length]
  exact h.take _
theorem Reps.erase {H : Hb} {as : List Addr} : ∀ {ds : List D} {vs : List V} (n : Nat), Reps C H as ds vs → Reps C H as (ds.eraseIdx n) (vs.eraseIdx n)
  | [], _, n, h => by
    have h : _ = [] := h
    subst h
    simp [Reps]
  | e :: ds, _, 0, h => by
    obtain ⟨v', r, rfl, h1, h2⟩ := h
    exact h2
  | e :: ds, _, n + 1, h => by
    obtain ⟨v', r, rfl, h1, h2⟩ := h
    exact ⟨v', _, rfl, h1, Reps.erase n h2⟩
def rPopA : V → List V → Hp → VK → Prop := fun x vs H Q => rPop x vs H Q ∨ rPopAt x vs H Q
theorem mt_popA : MtR X "list.pop" rPopA := MtR.or mt_pop mt_popAt
theorem ok_pop : OkM C rPopA fPop := by
  intro H0 as st H dx ds x vs d st' Q w rx rs hf k
  unfold fPop at hf
  split at hf
  · split at hf
    · rename_i he
      obtain ⟨d0, hd, e⟩ := Option.map_eq_some_iff.mp hf
      cases e
      cases (show vs = [] from rs)
      obtain ⟨a, us, ha, hn, h1, hr⟩ := w.loc he
      obtain ⟨a', ha', rfl⟩ := rx
      rw [ha] at ha'
      cases ha'
      obtain ⟨v, hv, rv⟩ := hr.get hd
      exact .inl ⟨a, us, v, rfl, rfl, h1, by rw [← hr.length]; exact hv, k.put w ha hn ⟨_, rfl, hr.init⟩ rv⟩
    · cases hf
  · split at hf
    · rename_i he
      split at hf
      · rename_i hb
        obtain ⟨j, hj, hf⟩ := Option.bind_eq_some_iff.mp hf
        obtain ⟨d0, hd, e⟩ := Option.map_eq_some_iff.mp hf
        cases e
        obtain ⟨v, rfl, rv⟩ := reps1 rs
        cases rep_int rv
        obtain ⟨a, us, ha, hn, h1, hr⟩ := w.loc he
        obtain ⟨a', ha', rfl⟩ := rx
        rw [ha] at ha'
        cases ha'
        obtain ⟨v, hv, rv⟩ := hr.get hd
        have hs := small_le hb
        have e63 : (2 : Int) ^ 63 = 9223372036854775808 := by decide
        exact .inr ⟨a, us, _, j, v, rfl, rfl, h1, by omega, by omega, by rw [← hr.length]; exact hj, hv, k.put w ha hn ⟨_, rfl, hr.erase j⟩ rv⟩
      · cases hf
    · cases hf
  · cases hf
theorem ok_extend : OkM C rExtend fExtend := by
  intro H0 as st H dx ds x vs d st' Q w rx rs hf k
  unfold fExtend at hf
  split at hf
  · split at hf
    · rename_i he
      obtain ⟨fs, hfs, hf⟩ := Option.bind_eq_some_iff.mp hf
      split at hf
      · rename_i hl
        cases hf
        obtain ⟨v, rfl, rv⟩ := reps1 rs
        obtain ⟨b, ws, rfl, hb, rw'⟩ := lookL_seq w rv hfs
        obtain ⟨a, us, ha, hn, h1, hr⟩ := w.loc he
        obtain ⟨a', ha', rfl⟩ := rx
        rw [ha] at ha'
        cases ha'
        exact ⟨a, b, us, ws, rfl, rfl, h1, hb, by rw [← hr.length, ← rw'.length]; exact hl, k.put w ha hn ⟨_, rfl, hr.append rw'⟩ rfl⟩
      · cases hf
    · cases hf
  · cases hf
end

/-! ### slices -/
def cutD (ds : List D) (lo hi : Option Int) : List D := (ds.drop (HT.sIx ds.length 0 lo)).take (HT.sIx ds.length ds.length hi - HT.sIx ds.length 0 lo)
def mNone : MO := fun _ st => some (none, st)
def mSome (a : ME) : MO := fun en st => (a en st).bind fun p => match p.1 with
  | .int i => some (some i, p.2)
  | _ => none
def fSl (mu : Bool) (d : D) (lo hi : Option Int) (st : Sto) : Option (D × Sto) := match d with
  | .tup ds => some (.tup (cutD ds lo hi), st)
  | d => (look d st).map fun ds => alloc mu (cutD ds lo hi) st
def mSl (mu : Bool) (a : ME) (l h : MO) : ME := fun en st => (a en st).bind fun p => (l en p.2).bind fun q => (h en q.2).bind fun r => fSl mu p.1 q.1 r.1 r.2
def mRev (mu : Bool) (a : ME) : ME := fun en st => (a en st).bind fun p => match p.1 with
  | .tup _ => none
  | d => (look d p.2).map fun ds => alloc mu ds.reverse p.2
section
variable {C : Cy} {X : Cx} {σ : L2.St} {H : Hp} {Q : VK} {ma mb : ME} {ml mh : MO}
theorem om_none {Q : Option Int → Hp → Prop} : oM C mNone σ H Q → tNoPart σ H Q := by
  rintro ⟨H0, as, en, st, d, st', e, w, hm, k⟩
  cases hm
  exact k H0 as H Le.refl w
theorem om_some {Q : Option Int → Hp → Prop} : oM C (mSome ma) σ H Q → tPart (eM C ma) σ H Q := by
  rintro ⟨H0, as, en, st, d, st', e, w, hm, k⟩
  unfold mSome at hm
  obtain ⟨⟨da, s1⟩, ha, hm⟩ := Option.bind_eq_some_iff.mp hm
  dsimp only at hm
  split at hm
  · cases hm
    refine ⟨H0, as, en, st, _, _, e, w, ha, fun x H1 as1 H1' l1 w1 r1 => ?_⟩
    exact ⟨_, rep_int r1, k H1 as1 H1' l1 w1⟩
  · cases hm
def rSlAll (K : PySem.W.Frag) : V → Option Int → Option Int → Hp → VK → Prop := fun x lo hi H Q => rSlA K x lo hi H Q ∨ rSlL K x lo hi H Q
theorem sl_all : SlR X (rSlAll X.K) := SlR.or sl_tupA sl_list
theorem Reps.cut {H : Hb} {as : List Addr} {ds : List D} {vs : List V} (h : Reps C H as ds vs) (lo hi : Option Int) : Reps C H as (cutD ds lo hi) (cutV vs lo hi) := by
  unfold cutD cutV
  rw [h.length]
  exact (h.drop _).take _
theorem cut_whole {vs : List V} {lo hi : Option Int} (h : HT.sIx vs.length 0 lo = 0 ∧ HT.sIx vs.length vs.length hi = vs.length) : cutV vs lo hi = vs := by
  unfold cutV
  rw [h.1, h.2, List.drop_zero, Nat.sub_zero, List.take_length]
theorem fSl_ok {mu : Bool} {H0 : Hb} {as : List Addr} {st st' : Sto} {d d' : D} {x : V} {lo hi : Option Int} (w : WR C H0 as st H) (rx : Rep C H0 as d x) (hf : fSl mu d lo hi st = some (d', st')) (k : KE C H0 as st' d' Q) : rSlAll C.K x lo hi H Q := by
  have seq : ∀ ds, (∃ a vs, x = .ref a ∧ SqL C.K H a vs ∧ Reps C H0 as ds vs) → some (alloc mu (cutD ds lo hi) st) = some (d', st') → rSlAll C.K x lo hi H Q := by
    rintro ds ⟨a, vs, rfl, hs, hr⟩ e
    exact .inr ⟨a, vs, rfl, hs, k.newA (Option.some.inj e) w (hr.cut lo hi)⟩
  cases d with
  | tup ds =>
    cases hf
    obtain ⟨a, vs, rfl, hs, hr⟩ := rx
    refine .inl ⟨a, vs, rfl, same_seqT w.ex hs, fun e => ?_, fun _ => k.newT w (hr.cut lo hi)⟩
    refine k.val w ⟨a, vs, rfl, hs, ?_⟩
    have := hr.cut lo hi
    rw [cut_whole e] at this
    exact this
  | lst ds =>
    obtain ⟨a, vs, rfl, hs, hr⟩ := rx
    exact seq ds ⟨a, vs, rfl, SqL.of (w.ex _ _ hs), hr⟩ hf
  | fro ds =>
    obtain ⟨a, vs, rfl, hs, hr⟩ := rx
    exact seq ds ⟨a, vs, rfl, w.ex.seq hs, hr⟩ hf
  | loc n =>
    obtain ⟨ds, hd, e⟩ := Option.map_eq_some_iff.mp hf
    obtain ⟨a, vs, rfl, hs, hr⟩ := lookL_seq w rx (d := .loc n) hd
    exact seq ds ⟨a, vs, rfl, SqL.of hs, hr⟩ (by rw [e])
  | _ => cases hf
theorem em_sl {mu : Bool} : eM C (mSl mu ma ml mh) σ H Q → tSl (rSlAll C.K) (eM C ma) (oM C ml) (oM C mh) σ H Q := by
  rintro ⟨H0, as, en, st, d, st', e, w, hm, k⟩
  unfold mSl at hm
  obtain ⟨⟨da, s1⟩, ha, hm⟩ := Option.bind_eq_some_iff.mp hm
  obtain ⟨⟨ol, s2⟩, hl, hm⟩ := Option.bind_eq_some_iff.mp hm
  obtain ⟨⟨oh, s3⟩, hh, hm⟩ := Option.bind_eq_some_iff.mp hm
  refine ⟨H0, as, en, st, da, s1, e, w, ha, fun x H1 as1 H1' l1 w1 r1 => ?_⟩
  refine ⟨H1, as1, en, s1, ol, s2, e.mono l1, w1, hl, fun H2 as2 H2' l2 w2 => ?_⟩
  refine ⟨H2, as2, en, s2, oh, s3, e.mono (l1.trans l2), w2, hh, fun H3 as3 H3' l3 w3 => ?_⟩
  exact fSl_ok w3 (r1.mono (l2.trans l3)) hm (k.mono ((l1.trans l2).trans l3))
theorem em_rev {mu : Bool} : eM C (mRev mu ma) σ H Q → tRevL C.K (eM C ma) σ H Q := by
  rintro ⟨H0, as, en, st, d, st', e, w, hm, k⟩
  unfold mRev at hm
  obtain ⟨⟨da, s1⟩, ha, hm⟩ := Option.bind_eq_some_iff.mp hm
  refine ⟨H0, as, en, st, da, s1, e, w, ha, fun x H1 as1 H1' l1 w1 r1 => ?_⟩
  have seq : ∀ ds, (∃ a vs, x = .ref a ∧ SqL C.K H1' a vs ∧ Reps C H1 as1 ds vs) → some (alloc mu ds.reverse s1) = some (d, st') → ∃ a xs, x = .ref a ∧ SqL C.K H1' a xs ∧ ∀ p, H1' p = none → Q (.ref p) (upd H1' p (.lst xs.reverse)) := by
    rintro ds ⟨a, vs, rfl, hs, hr⟩ e
    exact ⟨a, vs, rfl, hs, (k.mono l1).newA (Option.some.inj e) w1 hr.rev⟩
  cases da with
  | tup ds => cases hm
  | lst ds =>
    obtain ⟨a, vs, rfl, hs, hr⟩ := r1
    exact seq ds ⟨a, vs, rfl, SqL.of (w1.ex _ _ hs), hr⟩ hm
  | fro ds =>
    obtain ⟨a, vs, rfl, hs, hr⟩ := r1
    exact seq ds ⟨a, vs, rfl, w1.ex.seq hs, hr⟩ hm
  | loc n =>
    obtain ⟨ds, hd, e⟩ := Option.map_eq_some_iff.mp hm
    obtain ⟨a, vs, rfl, hs, hr⟩ := lookL_seq w1 r1 (d := .loc n) hd
    exact seq ds ⟨a, vs, rfl, SqL.of hs, hr⟩ (by rw [e])
  | _ => cases hm
end

/-! ### displays -/
def mTup (a : MA) : ME := fun en st => (a en st).bind fun p => if p.1.length ≤ sizeLine then some (.tup p.1, p.2) else none
def mLst (mu : Bool) (a : MA) : ME := fun en st => (a en st).bind fun p => if p.1.length ≤ sizeLine then some (alloc mu p.1 p.2) else none
section
variable {C : Cy} {σ : L2.St} {H : Hp} {Q : VK} {m : MA}
theorem em_tup : eM C (mTup m) σ H Q → tTup (aM C m) σ H Q := by
  rintro ⟨H0, as, en, st, d, st', e, w, hm, k⟩
  unfold mTup at hm
  obtain ⟨⟨ds, s1⟩, ha, hm⟩ := Option.bind_eq_some_iff.mp hm
  dsimp only at hm
  split at hm
  · rename_i hl
    cases hm
    refine ⟨H0, as, en, st, ds, _, e, w, ha, fun xs H1 as1 H1' l1 w1 r1 => ⟨by rw [← r1.length]; exact hl, (k.mono l1).newT w1 r1⟩⟩
  · cases hm
theorem em_lst {mu : Bool} : eM C (mLst mu m) σ H Q → tLst (aM C m) σ H Q := by
  rintro ⟨H0, as, en, st, d, st', e, w, hm, k⟩
  unfold mLst at hm
  obtain ⟨⟨ds, s1⟩, ha, hm⟩ := Option.bind_eq_some_iff.mp hm
  dsimp only at hm
  split at hm
  · rename_i hl
    refine ⟨H0, as, en, st, ds, s1, e, w, ha, fun xs H1 as1 H1' l1 w1 r1 => ⟨by rw [← r1.length]; exact hl, (k.mono l1).newA (Option.some.inj hm) w1 r1⟩⟩
  · cases hm
end

/-! ### tests -/
def truD (d : D) (st : Sto) : Option Bool := match d with
  | .non => some false
  | .bl b => some b
  | .int i => some (i != 0)
  | .str x => if x.length ≤ sizeLine then some ((x.length : Int) != 0) else none
  | .loc n => match st[n]? with
    | some (.lst ds) => some (!ds.isEmpty)
    | some (.dK kvs) => some (!kvs.isEmpty)
    | _ => none
  | d => (look d st).map fun ds => !ds.isEmpty
/-- any value's truth; a bool's -/
def mT (m : ME) : MB := fun en st => (m en st).bind fun p => (truD p.1 p.2).map (·, p.2)
def mTB (m : ME) : MB := fun en st => (m en st).bind fun p => match p.1 with
  | .bl b => some (b, p.2)
  | _ => none
def mAnd (a b : MB) : MB := fun en st => (a en st).bind fun p => if p.1 = true then b en p.2 else some (false, p.2)
def mOr (a b : MB) : MB := fun en st => (a en st).bind fun p => if p.1 = true then some (true, p.2) else b en p.2
def mNot (a : MB) : MB := fun en st => (a en st).bind fun p => some (!p.1, p.2)
def mAndV (a b : ME) : ME := fun en st => (a en st).bind fun p => match p.1 with
  | .bl true => b en p.2
  | .bl false => some (.bl false, p.2)
  | _ => none
def mOrV (a b : ME) : ME := fun en st => (a en st).bind fun p => match p.1 with
  | .bl true => some (.bl true, p.2)
  | .bl false => b en p.2
  | _ => none
def mNotV (a : ME) : ME := fun en st => (a en st).bind fun p => match p.1 with
  | .bl b => some (.bl (!b), p.2)
  | _ => none
def mIf (c : MB) (a b : ME) : ME := fun en st => (c en st).bind fun p => if p.1 = true then a en p.2 else b en p.2
section
variable {C : Cy} {σ : L2.St} {H : Hp} {Q : VK} {R : Bool → Hp → Prop} {ma mb : ME} {mc md : MB}
theorem Reps.empty {H : Hb} {as : List Addr} {ds : List D} {vs : List V} (h : Reps C H as ds vs) : vs.isEmpty = ds.isEmpty := by
  cases ds with
  | nil => cases (show vs = [] from h); rfl
  | cons d ds => obtain ⟨v, r, rfl, _⟩ := h; rfl
theorem RepKV.empty {κ : Type} {H : Hb} {as : List Addr} {ds : List (κ × D)} {vs : List (κ × V)} (h : RepKV C H as ds vs) : vs.isEmpty = ds.isEmpty := by
  cases ds with
  | nil => cases (show vs = [] from h); rfl
  | cons d ds => obtain ⟨k, d⟩ := d; obtain ⟨v, r, rfl, _⟩ := h; rfl
theorem truD_ok {H0 : Hb} {as : List Addr} {st : Sto} {d : D} {x : V} {b : Bool} (w : WR C H0 as st H) (r : Rep C H0 as d x) (h : truD d st = some b) : TruV C.K x H b := by
  cases d with
  | non => cases h; cases (show x = .non from r); rfl
  | bl b => cases h; cases rep_bl r; rfl
  | int b => cases h; cases rep_int r; rfl
  | str y =>
    cases rep_str r
    unfold truD at h
    dsimp only at h
    split at h
    · rename_i hl
      cases h
      exact ⟨hl, rfl⟩
    · cases h
  | tup ds =>
    cases h
    obtain ⟨a, vs, rfl, hs, hr⟩ := r
    exact .inr (.inl ⟨vs, same_seqT w.ex hs, by rw [hr.empty]⟩)
  | lst ds =>
    cases h
    obtain ⟨a, vs, rfl, hs, hr⟩ := r
    exact .inl ⟨vs, SqL.of (w.ex _ _ hs), by rw [hr.empty]⟩
  | fro ds =>
    cases h
    obtain ⟨a, vs, rfl, hs, hr⟩ := r
    exact .inl ⟨vs, w.ex.seq hs, by rw [hr.empty]⟩
  | loc n =>
    obtain ⟨a, ha, rfl⟩ := r
    unfold truD at h
    dsimp only at h
    split at h
    · rename_i he
      cases h
      obtain ⟨a', vs, ha', _, h1, hr⟩ := w.loc he
      rw [ha] at ha'
      cases ha'
      exact .inl ⟨vs, SqL.of h1, by rw [hr.empty]⟩
    · rename_i he
      cases h
      rcases w.own n a _ ha he with z | ⟨z, ho, h1, vs, rfl, h2⟩
      · cases z
      · exact .inr (.inr ⟨vs, h1, by rw [h2.empty]⟩)
    · cases h
  | _ => cases h
theorem bm_tru : bM C (mT ma) σ H R → eM C ma σ H (fun x H' => ∃ k, TruV C.K x H' k ∧ R k H') := by
  rintro ⟨H0, as, en, st, b, st', e, w, hm, k⟩
  unfold mT at hm
  obtain ⟨⟨da, s1⟩, ha, hm⟩ := Option.bind_eq_some_iff.mp hm
  obtain ⟨b', hb, e'⟩ := Option.map_eq_some_iff.mp hm
  cases e'
  exact ⟨H0, as, en, st, da, s1, e, w, ha, fun x H1 as1 H1' l1 w1 r1 => ⟨b, truD_ok w1 r1 hb, k H1 as1 H1' l1 w1⟩⟩
theorem bm_bool : bM C (mTB ma) σ H R → eM C ma σ H (fun x H' => ∃ k, x = .bl k ∧ R k H') := by
  rintro ⟨H0, as, en, st, b, st', e, w, hm, k⟩
  unfold mTB at hm
  obtain ⟨⟨da, s1⟩, ha, hm⟩ := Option.bind_eq_some_iff.mp hm
  dsimp only at hm
  split at hm
  · cases hm
    exact ⟨H0, as, en, st, _, _, e, w, ha, fun x H1 as1 H1' l1 w1 r1 => ⟨_, rep_bl r1, k H1 as1 H1' l1 w1⟩⟩
  · cases hm
theorem bm_and : bM C (mAnd mc md) σ H R → tAnd (bM C mc) (bM C md) σ H R := by
  rintro ⟨H0, as, en, st, b, st', e, w, hm, k⟩
  unfold mAnd at hm
  obtain ⟨⟨b1, s1⟩, ha, hm⟩ := Option.bind_eq_some_iff.mp hm
  refine ⟨H0, as, en, st, b1, s1, e, w, ha, fun H1 as1 H1' l1 w1 => ?_⟩
  dsimp only at hm ⊢
  split
  · rename_i h
    rw [if_pos h] at hm
    exact ⟨H1, as1, en, s1, b, st', e.mono l1, w1, hm, k.mono l1⟩
  · rename_i h
    rw [if_neg h] at hm
    cases hm
    exact k H1 as1 H1' l1 w1
theorem bm_or : bM C (mOr mc md) σ H R → tOr (bM C mc) (bM C md) σ H R := by
  rintro ⟨H0, as, en, st, b, st', e, w, hm, k⟩
  unfold mOr at hm
  obtain ⟨⟨b1, s1⟩, ha, hm⟩ := Option.bind_eq_some_iff.mp hm
  refine ⟨H0, as, en, st, b1, s1, e, w, ha, fun H1 as1 H1' l1 w1 => ?_⟩
  dsimp only at hm ⊢
  split
  · rename_i h
    rw [if_pos h] at hm
    cases hm
    exact k H1 as1 H1' l1 w1
  · rename_i h
    rw [if_neg h] at hm
    exact ⟨H1, as1, en, s1, b, st', e.mono l1, w1, hm, k.mono l1⟩
theorem bm_not : bM C (mNot mc) σ H R → tNot (bM C mc) σ H R := by
  rintro ⟨H0, as, en, st, b, st', e, w, hm, k⟩
  unfold mNot at hm
  obtain ⟨⟨b1, s1⟩, ha, hm⟩ := Option.bind_eq_some_iff.mp hm
  cases hm
  exact ⟨H0, as, en, st, b1, s1, e, w, ha, fun H1 as1 H1' l1 w1 => k H1 as1 H1' l1 w1⟩
theorem em_and : eM C (mAndV ma mb) σ H Q → tAndV (eM C ma) (eM C mb) σ H Q := by
  rintro ⟨H0, as, en, st, d, st', e, w, hm, k⟩
  unfold mAndV at hm
  obtain ⟨⟨b1, s1⟩, ha, hm⟩ := Option.bind_eq_some_iff.mp hm
  refine ⟨H0, as, en, st, b1, s1, e, w, ha, fun x H1 as1 H1' l1 w1 r1 => ?_⟩
  dsimp only at hm
  split at hm
  · exact ⟨true, rep_bl r1, H1, as1, en, s1, d, st', e.mono l1, w1, hm, k.mono l1⟩
  · cases hm
    exact ⟨false, rep_bl r1, k _ H1 as1 H1' l1 w1 rfl⟩
  · cases hm
theorem em_or : eM C (mOrV ma mb) σ H Q → tOrV (eM C ma) (eM C mb) σ H Q := by
  rintro ⟨H0, as, en, st, d, st', e, w, hm, k⟩
  unfold mOrV at hm
  obtain ⟨⟨b1, s1⟩, ha, hm⟩ := Option.bind_eq_some_iff.mp hm
  refine ⟨H0, as, en, st, b1, s1, e, w, ha, fun x H1 as1 H1' l1 w1 r1 => ?_⟩
  dsimp only at hm
  split at hm
  · cases hm
    exact ⟨true, rep_bl r1, k _ H1 as1 H1' l1 w1 rfl⟩
  · exact ⟨false, rep_bl r1, H1, as1, en, s1, d, st', e.mono l1, w1, hm, k.mono l1⟩
  · cases hm
theorem em_not : eM C (mNotV ma) σ H Q → tNotV (eM C ma) σ H Q := by
  rintro ⟨H0, as, en, st, d, st', e, w, hm, k⟩
  unfold mNotV at hm
  obtain ⟨⟨b1, s1⟩, ha, hm⟩ := Option.bind_eq_some_iff.mp hm
  refine ⟨H0, as, en, st, b1, s1, e, w, ha, fun x H1 as1 H1' l1 w1 r1 => ?_⟩
  dsimp only at hm
  split at hm
  · cases hm
    exact ⟨_, rep_bl r1, k _ H1 as1 H1' l1 w1 rfl⟩
  · cases hm
theorem em_if : eM C (mIf mc ma mb) σ H Q → tIf (bM C mc) (eM C ma) (eM C mb) σ H Q := by
  rintro ⟨H0, as, en, st, d, st', e, w, hm, k⟩
  unfold mIf at hm
  obtain ⟨⟨b1, s1⟩, ha, hm⟩ := Option.bind_eq_some_iff.mp hm
  refine ⟨H0, as, en, st, b1, s1, e, w, ha, fun H1 as1 H1' l1 w1 => ?_⟩
  dsimp only at hm ⊢
  split
  · rename_i h
    rw [if_pos h] at hm
    exact ⟨H1, as1, en, s1, d, st', e.mono l1, w1, hm, k.mono l1⟩
  · rename_i h
    rw [if_neg h] at hm
    exact ⟨H1, as1, en, s1, d, st', e.mono l1, w1, hm, k.mono l1⟩
end
end My


namespace My
open PySem PySem.Spec PyProof.Rows L2

/-! ### targets -/
inductive Tg where
  | name (i : Nat) | tup (ts : List Tg)
mutual
def Tg.slots : Tg → List Nat
  | .name i => [i]
  | .tup ts => Tg.slotss ts
def Tg.slotss : List Tg → List Nat
  | [] => []
  | t :: ts => t.slots ++ Tg.slotss ts
end
mutual
def setTg : Tg → D → En → Option En
  | .name i, d, en => some (en.set i (some d))
  | .tup ts, .tup ds, en => setTgs ts ds en
  | .tup _, _, _ => none
def setTgs : List Tg → List D → En → Option En
  | [], [], en => some en
  | t :: ts, d :: ds, en => (setTg t d en).bind fun en' => setTgs ts ds en'
  | _, _, _ => none
end
def SlotEq (L : List Nat) (σ σ' : L2.St) : Prop := σ'.length = σ.length ∧ ∀ (i : Nat), i ∉ L → σ'[i]? = σ[i]?
theorem SlotEq.refl {L : List Nat} {σ : L2.St} : SlotEq L σ σ := ⟨rfl, fun _ _ => rfl⟩
theorem SlotEq.trans {L L' L3 : List Nat} {σ σ1 σ2 : L2.St} (a : SlotEq L σ σ1) (b : SlotEq L' σ1 σ2) (h : ∀ i, i ∈ L ∨ i ∈ L' → i ∈ L3) : SlotEq L3 σ σ2 :=
  ⟨b.1.trans a.1, fun i hi => (b.2 i fun z => hi (h i (.inr z))).trans (a.2 i fun z => hi (h i (.inl z)))⟩
def tgM (C : Cy) (T : Tg) : TG := fun v σ H Q => ∃ H0 as en st d en', EnR C H0 as en σ ∧ WR C H0 as st H ∧ Rep C H0 as d v ∧ setTg T d en = some en' ∧ ∀ σ', SlotEq T.slots σ σ' → EnR C H0 as en' σ' → Q σ' H
def tgsM (C : Cy) (T : List Tg) : TGs := fun vs σ H Q => ∃ H0 as en st ds en', EnR C H0 as en σ ∧ WR C H0 as st H ∧ Reps C H0 as ds vs ∧ setTgs T ds en = some en' ∧ ∀ σ', SlotEq (Tg.slotss T) σ σ' → EnR C H0 as en' σ' → Q σ' H
abbrev MG := D → En → Sto → Option (En × Sto)
def gM (C : Cy) (g : MG) : TG := fun v σ H Q => ∃ H0 as en st d en' st', EnR C H0 as en σ ∧ WR C H0 as st H ∧ Rep C H0 as d v ∧ g d en st = some (en', st') ∧ KS C H0 as st' en' Q
abbrev MGs := List D → En → Sto → Option (En × Sto)
def gsM (C : Cy) (g : MGs) : TGs := fun vs σ H Q => ∃ H0 as en st ds en' st', EnR C H0 as en σ ∧ WR C H0 as st H ∧ Reps C H0 as ds vs ∧ g ds en st = some (en', st') ∧ KS C H0 as st' en' Q
def mgT (T : Tg) : MG := fun d en st => (setTg T d en).map (·, st)
def mgName (i : Nat) : MG := fun d en st => some (en.set i (some d), st)
def mgSub (a b : ME) (f : D → D → D → Sto → Option Sto) : MG := fun d en st => (a en st).bind fun p => (b en p.2).bind fun q => (f p.1 q.1 d q.2).map fun s => (en, s)
def mgNil : MGs := fun ds en st => match ds with
  | [] => some (en, st)
  | _ => none
def mgCons (g : MG) (r : MGs) : MGs := fun ds en st => match ds with
  | d :: ds => (g d en st).bind fun p => r ds p.1 p.2
  | [] => none
def mgTup (n : Nat) (g : MGs) : MG := fun d en st => match d with
  | .tup ds => if ds.length = n then g ds en st else none
  | _ => none
section
variable {X : Cx} {e : Expr} {es : List Expr}
theorem PG.imp {t t' : TG} (h : PG X e t) (i : ∀ v σ H Q, t' v σ H Q → t v σ H Q) : PG X e t' := ⟨fun pins s σ H v u Q I r w => h.run pins s σ H v u Q I r (i v σ H Q w)⟩
theorem PGs.imp {t t' : TGs} (h : PGs X es t) (i : ∀ v σ H Q, t' v σ H Q → t v σ H Q) : PGs X es t' := ⟨fun pins s σ H v u Q I r w => h.run pins s σ H v u Q I r (i v σ H Q w)⟩
end
section
variable {C : Cy} {v : V} {vs : List V} {σ : L2.St} {H : Hp} {Q : L2.St → Hp → Prop}
theorem tg_name {i : Nat} : tgM C (.name i) v σ H Q → gName i v σ H Q := by
  rintro ⟨H0, as, en, st, d, en', e, w, r, hs, k⟩
  cases hs
  exact k _ ⟨List.length_set, fun j hj => List.getElem?_set_ne (fun z => hj (by simp [Tg.slots, z]))⟩ (e.set r i)
theorem tgs_nil : tgsM C [] vs σ H Q → gNil vs σ H Q := by
  rintro ⟨H0, as, en, st, ds, en', e, w, r, hs, k⟩
  cases ds with
  | nil =>
    cases hs
    exact ⟨r, k σ .refl e⟩
  | cons _ _ => cases hs
theorem tgs_cons {t : Tg} {ts : List Tg} : tgsM C (t :: ts) vs σ H Q → gCons (tgM C t) (tgsM C ts) vs σ H Q := by
  rintro ⟨H0, as, en, st, ds, en', e, w, r, hs, k⟩
  cases ds with
  | nil => cases hs
  | cons d ds =>
    obtain ⟨en1, h1, h2⟩ := Option.bind_eq_some_iff.mp hs
    obtain ⟨x, xs, rfl, r1, r2⟩ := r
    refine ⟨x, xs, rfl, H0, as, en, st, d, en1, e, w, r1, h1, fun σ1 s1 e1 => ?_⟩
    refine ⟨H0, as, en1, st, ds, en', e1, w, r2, h2, fun σ2 s2 e2 => ?_⟩
    exact k σ2 (SlotEq.trans (L3 := Tg.slotss (t :: ts)) s1 s2 fun i hi => by simpa [Tg.slotss] using hi) e2
theorem tg_tup {ts : List Tg} : tgM C (.tup ts) v σ H Q → gTup C.K ts.length (tgsM C ts) v σ H Q := by
  rintro ⟨H0, as, en, st, d, en', e, w, r, hs, k⟩
  cases d with
  | tup ds =>
    obtain ⟨a, vs, rfl, hq, hr⟩ := r
    have hl : ∀ (ts : List Tg) (ds : List D) (en en' : En), setTgs ts ds en = some en' → ds.length = ts.length := by
      intro ts
      induction ts with
      | nil => intro ds en en' h; cases ds with
        | nil => rfl
        | cons _ _ => cases h
      | cons t ts ih => intro ds en en' h; cases ds with
        | nil => cases h
        | cons d ds =>
          obtain ⟨en1, _, h2⟩ := Option.bind_eq_some_iff.mp h
          simp [ih ds en1 en' h2]
    exact ⟨a, vs, rfl, same_seqT w.ex hq, by rw [← hr.length]; exact hl ts ds en en' hs, H0, as, en, st, ds, en', e, w, hr, hs, k⟩
  | _ => cases hs
theorem gm_T {T : Tg} : gM C (mgT T) v σ H Q → tgM C T v σ H Q := by
  rintro ⟨H0, as, en, st, d, en', st', e, w, r, hs, k⟩
  obtain ⟨en1, h1, e1⟩ := Option.map_eq_some_iff.mp hs
  cases e1
  exact ⟨H0, as, en, st, d, _, e, w, r, h1, fun σ' s' e' => k σ' H0 as H Le.refl w e'⟩
theorem gm_name {i : Nat} : gM C (mgName i) v σ H Q → gName i v σ H Q := by
  rintro ⟨H0, as, en, st, d, en', st', e, w, r, hs, k⟩
  cases hs
  exact k _ H0 as H Le.refl w (e.set r i)
theorem gs_nil : gsM C mgNil vs σ H Q → gNil vs σ H Q := by
  rintro ⟨H0, as, en, st, ds, en', st', e, w, r, hs, k⟩
  cases ds with
  | nil =>
    cases hs
    exact ⟨r, k σ H0 as H Le.refl w e⟩
  | cons _ _ => cases hs
theorem gs_cons {t : MG} {ts : MGs} : gsM C (mgCons t ts) vs σ H Q → gCons (gM C t) (gsM C ts) vs σ H Q := by
  rintro ⟨H0, as, en, st, ds, en', st', e, w, r, hs, k⟩
  cases ds with
  | nil => cases hs
  | cons d ds =>
    obtain ⟨⟨en1, s1⟩, h1, h2⟩ := Option.bind_eq_some_iff.mp hs
    obtain ⟨x, xs, rfl, r1, r2⟩ := r
    refine ⟨x, xs, rfl, H0, as, en, st, d, en1, s1, e, w, r1, h1, fun σ1 H1 as1 H1' l1 w1 e1 => ?_⟩
    exact ⟨H1, as1, en1, s1, ds, en', st', e1, w1, r2.mono l1, h2, k.mono l1⟩
theorem gm_tup {n : Nat} {ts : MGs} : gM C (mgTup n ts) v σ H Q → gTup C.K n (gsM C ts) v σ H Q := by
  rintro ⟨H0, as, en, st, d, en', st', e, w, r, hs, k⟩
  cases d with
  | tup ds =>
    obtain ⟨a, vs, rfl, hq, hr⟩ := r
    unfold mgTup at hs
    dsimp only at hs
    split at hs
    · rename_i hl
      exact ⟨a, vs, rfl, same_seqT w.ex hq, by rw [← hr.length]; exact hl, H0, as, en, st, ds, en', st', e, w, hr, hs, k⟩
    · cases hs
  | _ => cases hs
def OkS (C : Cy) (t : TSet) (f : D → D → D → Sto → Option Sto) : Prop := ∀ H0 as st H a b c x y z st' Q, WR C H0 as st H → Rep C H0 as a x → Rep C H0 as b y → Rep C H0 as c z → f a b c st = some st' → (∀ H0' as' H', Le H0 as H0' as' → WR C H0' as' st' H' → Q H') → t x y z H Q
theorem gm_sub {a b : ME} {t : TSet} {f : D → D → D → Sto → Option Sto} (ok : OkS C t f) : gM C (mgSub a b f) v σ H Q → gSub (eM C a) (eM C b) t v σ H Q := by
  rintro ⟨H0, as, en, st, d, en', st', e, w, r, hs, k⟩
  unfold mgSub at hs
  obtain ⟨⟨da, s1⟩, ha, hs⟩ := Option.bind_eq_some_iff.mp hs
  obtain ⟨⟨db, s2⟩, hb, hs⟩ := Option.bind_eq_some_iff.mp hs
  obtain ⟨s3, h3, e3⟩ := Option.map_eq_some_iff.mp hs
  cases e3
  refine ⟨H0, as, en, st, da, s1, e, w, ha, fun x H1 as1 H1' l1 w1 r1 => ?_⟩
  refine ⟨H1, as1, en, s1, db, s2, e.mono l1, w1, hb, fun y H2 as2 H2' l2 w2 r2 => ?_⟩
  exact ok H2 as2 s2 H2' da db d x y v _ _ w2 (r1.mono l2) r2 (r.mono (l1.trans l2)) h3 fun H3 as3 H3' l3 w3 => k σ H3 as3 H3' ((l1.trans l2).trans l3) w3 (e.mono ((l1.trans l2).trans l3))
def fSetL (a b c : D) (st : Sto) : Option Sto := match a, b with
  | .loc n, .int k => match st[n]? with
    | some (.lst ds) => (ixN ds.length k).map fun j => st.set n (.lst (ds.set j c))
    | _ => none
  | _, _ => none
theorem ok_setL : OkS C rSetL fSetL := by
  intro H0 as st H a b c x y z st' Q w rx ry rz hf k
  unfold fSetL at hf
  split at hf
  · split at hf
    · rename_i he
      obtain ⟨j, hj, e⟩ := Option.map_eq_some_iff.mp hf
      cases e
      cases rep_int ry
      obtain ⟨a', us, ha, hn, h1, hr⟩ := w.loc he
      obtain ⟨a'', ha', rfl⟩ := rx
      rw [ha] at ha'
      cases ha'
      exact ⟨a', us, _, j, rfl, rfl, h1, by rw [← hr.length]; exact hj, k H0 as _ Le.refl (w.put ha hn ⟨_, rfl, Reps.set rz j hr⟩)⟩
    · cases hf
  · cases hf
end

/-! ### statements -/
def mNext : MS := fun en st => some (.nx en, st)
def mBreak : MS := fun en st => some (.bk en, st)
def mCont : MS := fun en st => some (.ct en, st)
def mNever : MS := fun _ _ => none
def mSeq (a b : MS) : MS := fun en st => (a en st).bind fun p => match p.1 with
  | .nx en' => b en' p.2
  | o => some (o, p.2)
def mRet (m : ME) : MS := fun en st => (m en st).bind fun p => some (.rt p.1, p.2)
def mRetN : MS := fun _ st => some (.rt .non, st)
def mDrop (m : ME) : MS := fun en st => (m en st).bind fun p => some (.nx en, p.2)
def mIfS (c : MB) (a b : MS) : MS := fun en st => (c en st).bind fun p => if p.1 = true then a en p.2 else b en p.2
def mAsg (m : ME) (g : MG) : MS := fun en st => (m en st).bind fun p => (g p.1 en p.2).bind fun q => some (.nx q.1, q.2)
def mAug (i : Nat) (m : ME) (f : D → D → Sto → Option (D × Sto)) : MS := fun en st => match en[i]? with
  | some (some x) => (m en st).bind fun p => (f x p.1 p.2).bind fun q => some (.nx (en.set i (some q.1)), q.2)
  | _ => none
def mPar (i j : Nat) (a : MA) : MS := fun en st => (a en st).bind fun p => match p.1 with
  | [x, y] => some (.nx ((en.set i (some x)).set j (some y)), p.2)
  | _ => none
def mWhN (c : MB) (b : MS) : Nat → MS
  | 0, _, _ => none
  | n + 1, en, st => (c en st).bind fun p => if p.1 = true then (b en p.2).bind fun q => match q.1 with
      | .nx e => mWhN c b n e q.2
      | .ct e => mWhN c b n e q.2
      | .bk e => some (.nx e, q.2)
      | .rt d => some (.rt d, q.2)
    else some (.nx en, p.2)
noncomputable def mWh (c : MB) (b : MS) : MS := fun en st => open Classical in if h : ∃ p : Nat × (Out × Sto), mWhN c b p.1 en st = some p.2 then some (Classical.choose h).2 else none
theorem mWhN_mono {c : MB} {b : MS} : ∀ {n m : Nat} {en : En} {st : Sto} {r : Out × Sto}, mWhN c b n en st = some r → n ≤ m → mWhN c b m en st = some r
  | 0, _, _, _, _, h, _ => by cases h
  | n + 1, 0, _, _, _, _, hl => by omega
  | n + 1, m + 1, en, st, r, h, hl => by
    unfold mWhN at h ⊢
    obtain ⟨⟨b1, s1⟩, h1, h⟩ := Option.bind_eq_some_iff.mp h
    refine Option.bind_eq_some_iff.mpr ⟨_, h1, ?_⟩
    dsimp only at h ⊢
    split
    · rename_i hb
      rw [if_pos hb] at h
      obtain ⟨⟨o, s2⟩, h2, h⟩ := Option.bind_eq_some_iff.mp h
      refine Option.bind_eq_some_iff.mpr ⟨_, h2, ?_⟩
      cases o with
      | nx e => exact mWhN_mono h (by omega)
      | ct e => exact mWhN_mono h (by omega)
      | bk e => exact h
      | rt d => exact h
    · rename_i hb
      rw [if_neg hb] at h
      exact h
theorem mWh_of {c : MB} {b : MS} {n : Nat} {en : En} {st : Sto} {r : Out × Sto} (h : mWhN c b n en st = some r) : mWh c b en st = some r := by
  unfold mWh
  have hx : ∃ p : Nat × (Out × Sto), mWhN c b p.1 en st = some p.2 := ⟨(n, r), h⟩
  rw [dif_pos hx]
  have h2 := Classical.choose_spec hx
  have a := mWhN_mono h (Nat.le_max_left n (Classical.choose hx).1)
  have b' := mWhN_mono h2 (Nat.le_max_right n (Classical.choose hx).1)
  rw [b'] at a
  exact a
theorem mWh_to {c : MB} {b : MS} {en : En} {st : Sto} {r : Out × Sto} (h : mWh c b en st = some r) : ∃ n, mWhN c b n en st = some r := by
  unfold mWh at h
  split at h
  · rename_i hx
    have h2 := Classical.choose_spec hx
    have e := Option.some.inj h
    rw [e] at h2
    exact ⟨_, h2⟩
  · cases h
section
variable {C : Cy} {N : Ends} {σ : L2.St} {H : Hp} {ma mb : MS} {m : ME} {mc : MB}
theorem sm_next : sM C mNext N σ H → tNext N σ H := by
  rintro ⟨H0, as, en, st, o, st', e, w, hm, k⟩
  cases hm
  exact k σ H0 as H Le.refl w e
theorem sm_break : sM C mBreak N σ H → tBreak N σ H := by
  rintro ⟨H0, as, en, st, o, st', e, w, hm, k⟩
  cases hm
  exact k σ H0 as H Le.refl w e
theorem sm_cont : sM C mCont N σ H → tCont N σ H := by
  rintro ⟨H0, as, en, st, o, st', e, w, hm, k⟩
  cases hm
  exact k σ H0 as H Le.refl w e
theorem sm_never : sM C mNever N σ H → tNever N σ H := by
  rintro ⟨H0, as, en, st, o, st', e, w, hm, k⟩
  cases hm
theorem sm_seq : sM C (mSeq ma mb) N σ H → tSeq (sM C ma) (sM C mb) N σ H := by
  rintro ⟨H0, as, en, st, o, st', e, w, hm, k⟩
  unfold mSeq at hm
  obtain ⟨⟨o1, s1⟩, ha, hm⟩ := Option.bind_eq_some_iff.mp hm
  refine ⟨H0, as, en, st, o1, s1, e, w, ha, ?_⟩
  cases o1 with
  | nx en1 =>
    intro σ1 H1 as1 H1' l1 w1 e1
    exact ⟨H1, as1, en1, s1, o, st', e1, w1, hm, k.mono l1⟩
  | rt d => cases hm; exact k
  | bk d => cases hm; exact k
  | ct d => cases hm; exact k
theorem sm_ret : sM C (mRet m) N σ H → tRet (eM C m) N σ H := by
  rintro ⟨H0, as, en, st, o, st', e, w, hm, k⟩
  unfold mRet at hm
  obtain ⟨⟨d, s1⟩, ha, hm⟩ := Option.bind_eq_some_iff.mp hm
  cases hm
  exact ⟨H0, as, en, st, d, s1, e, w, ha, k⟩
theorem sm_retN : sM C mRetN N σ H → tRetN N σ H := by
  rintro ⟨H0, as, en, st, o, st', e, w, hm, k⟩
  cases hm
  exact k .non H0 as H Le.refl w rfl
theorem sm_drop : sM C (mDrop m) N σ H → tDrop (eM C m) N σ H := by
  rintro ⟨H0, as, en, st, o, st', e, w, hm, k⟩
  unfold mDrop at hm
  obtain ⟨⟨d, s1⟩, ha, hm⟩ := Option.bind_eq_some_iff.mp hm
  cases hm
  exact ⟨H0, as, en, st, d, s1, e, w, ha, fun v H1 as1 H1' l1 w1 _ => k σ H1 as1 H1' l1 w1 (e.mono l1)⟩
theorem sm_if : sM C (mIfS mc ma mb) N σ H → tIfS (bM C mc) (sM C ma) (sM C mb) N σ H := by
  rintro ⟨H0, as, en, st, o, st', e, w, hm, k⟩
  unfold mIfS at hm
  obtain ⟨⟨b1, s1⟩, ha, hm⟩ := Option.bind_eq_some_iff.mp hm
  refine ⟨H0, as, en, st, b1, s1, e, w, ha, fun H1 as1 H1' l1 w1 => ?_⟩
  dsimp only at hm ⊢
  split
  · rename_i h
    rw [if_pos h] at hm
    exact ⟨H1, as1, en, s1, o, st', e.mono l1, w1, hm, k.mono l1⟩
  · rename_i h
    rw [if_neg h] at hm
    exact ⟨H1, as1, en, s1, o, st', e.mono l1, w1, hm, k.mono l1⟩
theorem sm_asg {g : MG} : sM C (mAsg m g) N σ H → tAsg (eM C m) (gM C g) N σ H := by
  rintro ⟨H0, as, en, st, o, st', e, w, hm, k⟩
  unfold mAsg at hm
  obtain ⟨⟨d, s1⟩, ha, hm⟩ := Option.bind_eq_some_iff.mp hm
  obtain ⟨⟨en2, s2⟩, hb, hm⟩ := Option.bind_eq_some_iff.mp hm
  cases hm
  refine ⟨H0, as, en, st, d, s1, e, w, ha, fun v H1 as1 H1' l1 w1 r1 => ?_⟩
  exact ⟨H1, as1, en, s1, d, en2, s2, e.mono l1, w1, r1, hb, KS.mono l1 k⟩
theorem sm_aug {i : Nat} {f : D → D → Sto → Option (D × Sto)} {t : TIp} (ok : Ok2 C t f) : sM C (mAug i m f) N σ H → tAug i (eM C m) t N σ H := by
  rintro ⟨H0, as, en, st, o, st', e, w, hm, k⟩
  unfold mAug at hm
  split at hm
  · rename_i x hx
    obtain ⟨⟨d, s1⟩, ha, hm⟩ := Option.bind_eq_some_iff.mp hm
    obtain ⟨⟨d2, s2⟩, hb, hm⟩ := Option.bind_eq_some_iff.mp hm
    cases hm
    obtain ⟨v, hv, rv⟩ := e.at_ i x hx
    refine ⟨v, hv, H0, as, en, st, d, s1, e, w, ha, fun y H1 as1 H1' l1 w1 r1 => ?_⟩
    exact ok H1 as1 s1 H1' x d v y d2 _ _ w1 (rv.mono l1) r1 hb fun z H2 as2 H2' l2 w2 r2 => k _ H2 as2 H2' (l1.trans l2) w2 ((e.mono (l1.trans l2)).set r2 i)
  · cases hm
theorem sm_par {i j : Nat} {a : MA} : sM C (mPar i j a) N σ H → tPar i j (aM C a) N σ H := by
  rintro ⟨H0, as, en, st, o, st', e, w, hm, k⟩
  unfold mPar at hm
  obtain ⟨⟨ds, s1⟩, ha, hm⟩ := Option.bind_eq_some_iff.mp hm
  dsimp only at hm
  split at hm
  · cases hm
    refine ⟨H0, as, en, st, _, _, e, w, ha, fun vs H1 as1 H1' l1 w1 r1 => ?_⟩
    obtain ⟨x, y, rfl, rx, ry⟩ := reps2 r1
    exact ⟨x, y, rfl, k _ H1 as1 H1' l1 w1 (((e.mono l1).set rx i).set ry j)⟩
  · cases hm
theorem sm_while : sM C (mWh mc ma) N σ H → tWhile (bM C mc) (sM C ma) N σ H := by
  rintro ⟨H0, as, en, st, o, st', e, w, hm, k⟩
  obtain ⟨n, hn⟩ := mWh_to hm
  refine ⟨fun m σ H => ∃ H1 as1 en1 st1, Le H0 as H1 as1 ∧ EnR C H1 as1 en1 σ ∧ WR C H1 as1 st1 H ∧ mWhN mc ma m en1 st1 = some (o, st'), ⟨n, H0, as, en, st, Le.refl, e, w, hn⟩, ?_⟩
  rintro m σ1 Hx ⟨H1, as1, en1, st1, l1, e1, w1, h1⟩
  cases m with
  | zero => cases h1
  | succ m =>
    unfold mWhN at h1
    obtain ⟨⟨b1, s1⟩, hb, h1⟩ := Option.bind_eq_some_iff.mp h1
    refine ⟨H1, as1, en1, st1, b1, s1, e1, w1, hb, fun H2 as2 H2' l2 w2 => ?_⟩
    dsimp only at h1 ⊢
    split
    · rename_i h
      rw [if_pos h] at h1
      obtain ⟨⟨o2, s2⟩, ho, h1⟩ := Option.bind_eq_some_iff.mp h1
      refine ⟨fun σ' H' => ∃ H3 as3 en3 st3, Le H0 as H3 as3 ∧ EnR C H3 as3 en3 σ' ∧ WR C H3 as3 st3 H' ∧ mWhN mc ma m en3 st3 = some (o, st'), fun σ' H' z => ⟨m, Nat.lt_succ_self m, z⟩, ?_⟩
      refine ⟨H2, as2, en1, s1, o2, s2, e1.mono l2, w2, ho, ?_⟩
      cases o2 with
      | nx e' => exact fun σ3 H3 as3 H3' l3 w3 e3 => ⟨H3, as3, e', s2, (l1.trans l2).trans l3, e3, w3, h1⟩
      | ct e' => exact fun σ3 H3 as3 H3' l3 w3 e3 => ⟨H3, as3, e', s2, (l1.trans l2).trans l3, e3, w3, h1⟩
      | bk e' =>
        cases h1
        exact fun σ3 H3 as3 H3' l3 w3 e3 => k σ3 H3 as3 H3' ((l1.trans l2).trans l3) w3 e3
      | rt d =>
        cases h1
        exact fun v H3 as3 H3' l3 w3 r3 => k v H3 as3 H3' ((l1.trans l2).trans l3) w3 r3
    · rename_i h
      rw [if_neg h] at h1
      cases h1
      exact k σ1 H2 as2 H2' (l1.trans l2) w2 (e1.mono l2)
end
end My


namespace My
open PySem PySem.Spec PyProof.Rows L2

/-! ### what is walked -/
structure Src where
  ds : List D
  chk : Option Nat
def Src.ok (s : Src) (st : Sto) : Prop := match s.chk with
  | none => True
  | some n => st[n]? = some (.lst s.ds)
def ItOk (C : Cy) (J : It) (s : Src) (H0 : Hb) (as : List Addr) : Prop := ∀ H1 as1 st H (i : Nat), Le H0 as H1 as1 → WR C H1 as1 st H → s.ok st →
  (∀ d, s.ds[i]? = some d → J.go i H ∧ ∀ x H', J.yld i H x H' → ∃ H2 as2, Le H1 as1 H2 as2 ∧ WR C H2 as2 st H' ∧ Rep C H2 as2 d x) ∧ (s.ds.length ≤ i → J.stop i H)
theorem Le.gset {H H1 : Hb} {as as1 : List Addr} (l : Le H as H1 as1) (g : List (Addr × List V)) : Le ⟨H.h, g⟩ as ⟨H1.h, g⟩ as1 := ⟨l.same, rfl, l.pre⟩
abbrev MI := En → Sto → Option (Src × Sto)
def iM (C : Cy) (m : MI) : TI := fun σ H R => ∃ H0 as en st s st', EnR C H0 as en σ ∧ WR C H0 as st H ∧ m en st = some (s, st') ∧ ∀ J H0' as' H', Le H0 as H0' as' → WR C H0' as' st' H' → (∀ g, ItOk C J s ⟨H0'.h, g⟩ as') → R J H'
def srcOf (d : D) (st : Sto) : Option Src := match d with
  | .tup ds => some ⟨ds, none⟩
  | .lst ds => some ⟨ds, none⟩
  | .fro ds => some ⟨ds, none⟩
  | .loc n => match st[n]? with
    | some (.lst ds) => some ⟨ds, some n⟩
    | _ => none
  | _ => none
def miSeq (m : ME) : MI := fun en st => (m en st).bind fun p => (srcOf p.1 p.2).map (·, p.2)
def rngD (lo : Int) (n : Nat) : List D := (List.range n).map fun (i : Nat) => D.int (lo + (i : Int))
def miRng1 (m : MA) : MI := fun en st => (m en st).bind fun p => match p.1 with
  | [.int j] => if small j = true then some (⟨rngD 0 j.toNat, none⟩, p.2) else none
  | _ => none
def miRng2 (m : MA) : MI := fun en st => (m en st).bind fun p => match p.1 with
  | [.int i, .int j] => if small i = true ∧ small j = true then some (⟨rngD i (j - i).toNat, none⟩, p.2) else none
  | _ => none
section
variable {X : Cx} {tg : Expr}
def iSeq (K : PySem.W.Frag) (tl : TE) : TI := fun σ H R => tl σ H fun x H1 => ∃ a, x = .ref a ∧ (((∃ xs, SqL K H1 a xs) ∧ R (Itl K a) H1) ∨ ((∃ xs, SqT K H1 a xs) ∧ R (Itt K a) H1))
theorem pi_seq {l : Expr} {tl : TE} (hl : PE X l tl) : PI X tg l (iSeq X.K tl) := by
  refine ⟨fun pins s σ H R I h => ?_⟩
  refine thn (hl.run pins s σ H _ I h) fun v s1 ⟨x, H1, I1, r1, q1⟩ => ?_
  obtain ⟨a, e, q1⟩ := q1
  subst e
  cases r1
  rcases q1 with ⟨⟨xs, hq⟩, q⟩ | ⟨⟨xs, hq⟩, q⟩
  · obtain ⟨its, rv, p, hz⟩ := I1.list hq
    refine wpAny_pyIter_list p.isList ?_
    refine ⟨s1.heap.objs.size, [s1.heap.objs.size], _, _, H1, rfl, I1.kept (t' := s1.toks) fun b o e => Heap.get?_push_of_some _ e, turn_list a _, ⟨_, Heap.get?_push_size _ rfl, rfl, rfl⟩, fun b hb => ?_, q⟩
    have e : b = s1.heap.objs.size := by simpa using hb
    subst e
    exact I1.fpOk (Nat.le_refl _) (I1.hok.fresh (Nat.le_refl _))
  · obtain ⟨its, rv, p, hz⟩ := I1.tuple hq
    refine wpAny_pyIter_tuple (show s1.heap.IsTuple a its.toArray from p) ?_
    refine ⟨s1.heap.objs.size, [s1.heap.objs.size], _, _, H1, rfl, I1.kept (t' := s1.toks) fun b o e => Heap.get?_push_of_some _ e, turn_tuple a _, ⟨_, Heap.get?_push_size _ rfl, rfl, rfl⟩, fun b hb => ?_, q⟩
    have e : b = s1.heap.objs.size := by simpa using hb
    subst e
    exact I1.fpOk (Nat.le_refl _) (I1.hok.fresh (Nat.le_refl _))
end
section
variable {C : Cy} {σ : L2.St} {H : Hp} {R : It → Hp → Prop} {m : ME} {ma : MA}
theorem itOk_list {a : Addr} {ds : List D} {vs : List V} {H0 : Hb} {as : List Addr} {c : Option Nat} (hs : ∀ H1 as1 st H, Le H0 as H1 as1 → WR C H1 as1 st H → (⟨ds, c⟩ : Src).ok st → ∃ vs, SqL C.K H a vs ∧ Reps C H1 as1 ds vs)  : ItOk C (Itl C.K a) ⟨ds, c⟩ H0 as := by
  intro H1 as1 st H i l w hk
  obtain ⟨vs, q, r⟩ := hs H1 as1 st H l w hk
  refine ⟨fun d hd => ?_, fun hi => ⟨vs, q, by rw [← r.length]; exact hi⟩⟩
  obtain ⟨v, hv, rv⟩ := r.get hd
  refine ⟨⟨vs, v, q, hv⟩, fun x H' y => ?_⟩
  obtain ⟨rfl, hx⟩ := y
  have e := hx vs q
  rw [hv] at e
  cases e
  exact ⟨H1, as1, Le.refl, w, rv⟩
theorem itOk_tup {a : Addr} {ds : List D} {vs : List V} {H0 : Hb} {as : List Addr} (q0 : SqT C.K H0.h a vs) (r0 : Reps C H0 as ds vs) : ItOk C (Itt C.K a) ⟨ds, none⟩ H0 as := by
  intro H1 as1 st H i l w _
  have q := same_seqT w.ex (same_seqT l.same q0)
  have r := r0.mono l
  refine ⟨fun d hd => ?_, fun hi => ⟨vs, q, by rw [← r.length]; exact hi⟩⟩
  obtain ⟨v, hv, rv⟩ := r.get hd
  refine ⟨⟨vs, v, q, hv⟩, fun x H' y => ?_⟩
  obtain ⟨rfl, hx⟩ := y
  have e := hx vs q
  rw [hv] at e
  cases e
  exact ⟨H1, as1, Le.refl, w, rv⟩
theorem itOk_rng {lo : Int} {n : Nat} {H0 : Hb} {as : List Addr} : ItOk C (Itr lo n) ⟨rngD lo n, none⟩ H0 as := by
  intro H1 as1 st H i l w _
  refine ⟨fun d hd => ?_, fun hi => ?_⟩
  · unfold rngD at hd
    rw [List.getElem?_map] at hd
    obtain ⟨j, hj, rfl⟩ := Option.map_eq_some_iff.mp hd
    obtain ⟨h1, h2⟩ := List.getElem?_eq_some_iff.mp hj
    rw [List.getElem_range] at h2
    subst h2
    rw [List.length_range] at h1
    refine ⟨h1, fun x H' y => ?_⟩
    obtain ⟨rfl, rfl⟩ := y
    exact ⟨H1, as1, Le.refl, w, rfl⟩
  · unfold rngD at hi
    have hi : n ≤ i := by simpa using hi
    exact hi
mutual
theorem Rep.gset {H0 : Hb} {as : List Addr} (g : List (Addr × List V)) : ∀ {d : D} {v : V}, Rep C H0 as d v → Rep C ⟨H0.h, g⟩ as d v
  | .non, _, h => h
  | .bl _, _, h => h
  | .int _, _, h => h
  | .str _, _, h => h
  | .ty _, _, h => h
  | .adr _, _, h => h
  | .tup ds, _, h => by
    obtain ⟨a, vs, e, hs, hr⟩ := h
    exact ⟨a, vs, e, hs, Reps.gset g hr⟩
  | .lst ds, _, h => by
    obtain ⟨a, vs, e, hs, hr⟩ := h
    exact ⟨a, vs, e, hs, Reps.gset g hr⟩
  | .fro ds, _, h => by
    obtain ⟨a, vs, e, hs, hr⟩ := h
    exact ⟨a, vs, e, hs, Reps.gset g hr⟩
  | .loc n, _, h => h
  | .fdk _ _ _, _, h => by
    obtain ⟨a, ob, vs, ha, e, hs, hl, hr⟩ := h
    exact ⟨a, ob, vs, ha, e, hs, hl, Reps.gset g hr⟩
  | .set _, _, h => h
  | .fn _, _, h => h
theorem Reps.gset {H0 : Hb} {as : List Addr} (g : List (Addr × List V)) : ∀ {ds : List D} {vs : List V}, Reps C H0 as ds vs → Reps C ⟨H0.h, g⟩ as ds vs
  | [], _, h => h
  | d :: ds, _, h => by
    obtain ⟨v, r, e, h1, h2⟩ := h
    exact ⟨v, r, e, Rep.gset g h1, Reps.gset g h2⟩
end
theorem RepKV.gset {κ : Type} {H0 : Hb} {as : List Addr} (g : List (Addr × List V)) : ∀ {ds : List (κ × D)} {vs : List (κ × V)}, RepKV C H0 as ds vs → RepKV C ⟨H0.h, g⟩ as ds vs
  | [], _, h => h
  | (k, d) :: ds, _, h => by
    obtain ⟨v, r, e, h1, h2⟩ := h
    exact ⟨v, r, e, h1.gset g, RepKV.gset g h2⟩
theorem RepO.gset {H0 : Hb} {as : List Addr} (g : List (Addr × List V)) : ∀ {o : SO} {u : HO}, RepO C H0 as o u → RepO C ⟨H0.h, g⟩ as o u
  | .dead, _, h => h
  | .lst _, _, ⟨vs, e, h⟩ => ⟨vs, e, h.gset g⟩
  | .dK _, _, ⟨vs, e, h⟩ => ⟨vs, e, h.gset g⟩
  | .dT _, _, ⟨vs, e, h⟩ => ⟨vs, e, h.gset g⟩
theorem EnR.gset {H0 : Hb} {as : List Addr} (g : List (Addr × List V)) {en : En} {σ : L2.St} (e : EnR C H0 as en σ) : EnR C ⟨H0.h, g⟩ as en σ := ⟨e.len, fun i d h => let ⟨v, a, b⟩ := e.at_ i d h; ⟨v, a, b.gset g⟩⟩
theorem im_seq : iM C (miSeq m) σ H R → iSeq C.K (eM C m) σ H R := by
  rintro ⟨H0, as, en, st, s, st', e, w, hm, k⟩
  unfold miSeq at hm
  obtain ⟨⟨d, s1⟩, ha, hm⟩ := Option.bind_eq_some_iff.mp hm
  obtain ⟨s', hs, e'⟩ := Option.map_eq_some_iff.mp hm
  cases e'
  refine ⟨H0, as, en, st, d, _, e, w, ha, fun x H1 as1 H1' l1 w1 r1 => ?_⟩
  cases d with
  | tup ds =>
    cases hs
    obtain ⟨a, vs, rfl, hq, hr⟩ := r1
    exact ⟨a, rfl, .inr ⟨⟨vs, same_seqT w1.ex hq⟩, k _ H1 as1 H1' l1 w1 fun g => itOk_tup hq (hr.gset g)⟩⟩
  | lst ds =>
    cases hs
    obtain ⟨a, vs, rfl, hq, hr⟩ := r1
    exact ⟨a, rfl, .inl ⟨⟨vs, SqL.of (w1.ex _ _ hq)⟩, k _ H1 as1 H1' l1 w1 fun g => itOk_list (vs := vs) fun H2 as2 st2 H2' l2 w2 _ => ⟨vs, SqL.of (w2.ex _ _ (l2.same _ _ hq)), (hr.gset g).mono l2⟩⟩⟩
  | fro ds =>
    cases hs
    obtain ⟨a, vs, rfl, hq, hr⟩ := r1
    exact ⟨a, rfl, .inl ⟨⟨vs, w1.ex.seq hq⟩, k _ H1 as1 H1' l1 w1 fun g => itOk_list (vs := vs) fun H2 as2 st2 H2' l2 w2 _ => ⟨vs, w2.ex.seq (l2.same.seq hq), (hr.gset g).mono l2⟩⟩⟩
  | loc n =>
    obtain ⟨a, ha', rfl⟩ := r1
    unfold srcOf at hs
    dsimp only at hs
    split at hs
    · rename_i he
      cases hs
      obtain ⟨a', vs, hb, _, h1, hr⟩ := w1.loc he
      rw [ha'] at hb
      cases hb
      refine ⟨a, rfl, .inl ⟨⟨vs, SqL.of h1⟩, k _ H1 as1 H1' l1 w1 fun g => itOk_list (vs := vs) fun H2 as2 st2 H2' l2 w2 hk => ?_⟩⟩
      obtain ⟨a'', vs', hb, _, h1, hr⟩ := w2.loc hk
      rw [pre_get l2.pre ha'] at hb
      cases hb
      exact ⟨vs', SqL.of h1, hr⟩
    · cases hs
  | _ => cases hs
theorem im_rng1 : iM C (miRng1 ma) σ H R → iRng1 (aM C ma) σ H R := by
  rintro ⟨H0, as, en, st, s, st', e, w, hm, k⟩
  unfold miRng1 at hm
  obtain ⟨⟨d, s1⟩, ha, hm⟩ := Option.bind_eq_some_iff.mp hm
  dsimp only at hm
  split at hm
  · split at hm
    · rename_i hb
      cases hm
      refine ⟨H0, as, en, st, _, _, e, w, ha, fun vs H1 as1 H1' l1 w1 r1 => ?_⟩
      obtain ⟨v, rfl, rv⟩ := reps1 r1
      cases rep_int rv
      have hs := small_le hb
      have e62 : (2 : Int) ^ 62 = 4611686018427387904 := by decide
      exact ⟨_, rfl, by omega, by omega, k _ H1 as1 H1' l1 w1 fun g => itOk_rng⟩
    · cases hm
  · cases hm
theorem im_rng2 : iM C (miRng2 ma) σ H R → iRng2 (aM C ma) σ H R := by
  rintro ⟨H0, as, en, st, s, st', e, w, hm, k⟩
  unfold miRng2 at hm
  obtain ⟨⟨d, s1⟩, ha, hm⟩ := Option.bind_eq_some_iff.mp hm
  dsimp only at hm
  split at hm
  · split at hm
    · rename_i hb
      cases hm
      refine ⟨H0, as, en, st, _, _, e, w, ha, fun vs H1 as1 H1' l1 w1 r1 => ?_⟩
      obtain ⟨v, v', rfl, rv, rv'⟩ := reps2 r1
      cases rep_int rv
      cases rep_int rv'
      have hs := small_le hb.1
      have ht := small_le hb.2
      have e62 : (2 : Int) ^ 62 = 4611686018427387904 := by decide
      exact ⟨_, _, rfl, by omega, k _ H1 as1 H1' l1 w1 fun g => itOk_rng⟩
    · cases hm
  · cases hm
end

/-! ### for -/
open Classical in
noncomputable def forL (s : Src) (T : Tg) (b : MS) : List D → MS
  | [], en, st => if s.ok st then some (.nx en, st) else none
  | d :: r, en, st => if s.ok st then (setTg T d en).bind fun en' => (b en' st).bind fun q => match q.1 with
      | .nx e => forL s T b r e q.2
      | .ct e => forL s T b r e q.2
      | .bk e => some (.nx e, q.2)
      | .rt d => some (.rt d, q.2)
    else none
noncomputable def mFor (mi : MI) (T : Tg) (b : MS) : MS := fun en st => (mi en st).bind fun p => forL p.1 T b p.1.ds en p.2
theorem Hb.eta (H : Hb) : (⟨H.h, H.g⟩ : Hb) = H := rfl
theorem sm_for {C : Cy} {N : Ends} {σ : L2.St} {H : Hp} {mi : MI} {T : Tg} {mb : MS} : sM C (mFor mi T mb) N σ H → tFor (iM C mi) (tgM C T) (sM C mb) N σ H := by
  rintro ⟨H0, as, en, st, o, st', e, w, hm, k⟩
  unfold mFor at hm
  obtain ⟨⟨s, s1⟩, hs, hm⟩ := Option.bind_eq_some_iff.mp hm
  refine ⟨H0, as, en, st, s, s1, e, w, hs, fun J H1 as1 H1' l1 w1 it => ?_⟩
  have it := it H1.g
  refine ⟨fun i m σ Hx => ∃ H2 as2 en2 st2, Le H1 as1 H2 as2 ∧ EnR C H2 as2 en2 σ ∧ WR C H2 as2 st2 Hx ∧ forL s T mb (s.ds.drop i) en2 st2 = some (o, st') ∧ m = s.ds.length - i,
    ⟨s.ds.length, H1, as1, en, s1, Le.refl, e.mono l1, w1, hm, rfl⟩, ?_⟩
  rintro i m σ1 Hx ⟨H2, as2, en2, st2, l2, e2, w2, h2, rfl⟩
  by_cases hi : i < s.ds.length
  · rw [List.drop_eq_getElem_cons hi] at h2
    unfold forL at h2
    split at h2
    · rename_i hk
      obtain ⟨en3, h3, h2⟩ := Option.bind_eq_some_iff.mp h2
      obtain ⟨⟨o4, st4⟩, h4, h2⟩ := Option.bind_eq_some_iff.mp h2
      obtain ⟨hgo, hy⟩ := (it H2 as2 st2 Hx i l2 w2 hk).1 _ (List.getElem?_eq_getElem hi)
      refine .inr ⟨hgo, fun σ' H' => ∃ H5 as5 en5 st5, Le H1 as1 H5 as5 ∧ EnR C H5 as5 en5 σ' ∧ WR C H5 as5 st5 H' ∧ forL s T mb (s.ds.drop (i + 1)) en5 st5 = some (o, st'), fun σ' H' ⟨H5, as5, en5, st5, a, b, c, d⟩ => ⟨s.ds.length - (i + 1), by omega, H5, as5, en5, st5, a, b, c, d, rfl⟩, fun x H' y => ?_⟩
      obtain ⟨H3, as3, l3, w3, r3⟩ := hy x H' y
      refine ⟨H3, as3, en2, st2, _, en3, e2.mono l3, w3, r3, h3, fun σ5 _ e5 => ?_⟩
      refine ⟨H3, as3, en3, st2, o4, st4, e5, w3, h4, ?_⟩
      cases o4 with
      | nx e' => exact fun σ6 H6 as6 H6' l6 w6 e6 => ⟨H6, as6, e', st4, ((l2.trans l3).trans l6), e6, w6, h2⟩
      | ct e' => exact fun σ6 H6 as6 H6' l6 w6 e6 => ⟨H6, as6, e', st4, ((l2.trans l3).trans l6), e6, w6, h2⟩
      | bk e' =>
        cases h2
        exact fun σ6 H6 as6 H6' l6 w6 e6 => k σ6 H6 as6 H6' (l1.trans ((l2.trans l3).trans l6)) w6 e6
      | rt d =>
        cases h2
        exact fun v H6 as6 H6' l6 w6 r6 => k v H6 as6 H6' (l1.trans ((l2.trans l3).trans l6)) w6 r6
    · cases h2
  · rw [List.drop_eq_nil_of_le (by omega)] at h2
    unfold forL at h2
    split at h2
    · rename_i hk
      cases h2
      exact .inl ⟨(it H2 as2 _ Hx i l2 w2 hk).2 (by omega), k σ1 H2 as2 Hx (l1.trans l2) w2 e2⟩
    · cases h2

/-! ### list comprehensions -/
def wipeE (en : En) : List Nat → En
  | [] => en
  | v :: vs => (wipeE en vs).set v none
theorem EnR.forget {C : Cy} {H0 : Hb} {as : List Addr} {en : En} {σ : L2.St} (e : EnR C H0 as en σ) (v : Nat) : EnR C H0 as (en.set v none) (σ.set v none) := by
  refine ⟨by simp [e.len], fun i d h => ?_⟩
  by_cases hi : i = v
  · subst hi
    by_cases hl : i < en.length
    · rw [List.getElem?_set_self hl] at h
      cases h
    · rw [List.getElem?_eq_none_iff.mpr (by rw [List.length_set]; omega)] at h
      cases h
  · rw [List.getElem?_set_ne (Ne.symm hi)] at h ⊢
    exact e.at_ i d h
theorem EnR.wipe {C : Cy} {H0 : Hb} {as : List Addr} {en : En} {σ : L2.St} (e : EnR C H0 as en σ) : ∀ vs, EnR C H0 as (wipeE en vs) (L2.wipe σ vs)
  | [] => e
  | v :: vs => (EnR.wipe e vs).forget v
theorem wipe_get {σ : L2.St} (i : Nat) : ∀ {vs : List Nat}, i ∉ vs → (L2.wipe σ vs)[i]? = σ[i]?
  | [], _ => rfl
  | v :: vs, h => by
    unfold L2.wipe
    rw [List.getElem?_set_ne (fun z => h (by simp [z])), wipe_get i fun z => h (List.mem_cons_of_mem _ z)]
theorem wipe_in {σ : L2.St} {i : Nat} : ∀ {vs : List Nat}, i ∈ vs → i < σ.length → (L2.wipe σ vs)[i]? = some none
  | v :: vs, h, hl => by
    unfold L2.wipe
    by_cases e : v = i
    · subst e
      exact List.getElem?_set_self (by rw [wipe_length]; exact hl)
    · rw [List.getElem?_set_ne e]
      exact wipe_in ((List.mem_cons.mp h).resolve_left (Ne.symm e)) hl
theorem wipe_eq {σ σ' : L2.St} {vs L : List Nat} (h : SlotEq L (L2.wipe σ vs) σ') (hs : ∀ i ∈ L, i ∈ vs) : L2.wipe σ' vs = L2.wipe σ vs := by
  have hlen : σ'.length = σ.length := h.1.trans (wipe_length σ vs)
  apply List.ext_getElem?
  intro i
  by_cases hi : i ∈ vs
  · by_cases hl : i < σ.length
    · rw [wipe_in hi (by omega), wipe_in hi hl]
    · rw [List.getElem?_eq_none_iff.mpr (by rw [wipe_length]; omega), List.getElem?_eq_none_iff.mpr (by rw [wipe_length]; omega)]
  · rw [wipe_get i hi, h.2 i (fun z => hi (hs i z))]
open Classical in
noncomputable def lcL (s : Src) (T : Tg) (tt : MB) (te : ME) (en : En) : List D → List D → Sto → Option (List D × Sto)
  | [], acc, st => if s.ok st then some (acc, st) else none
  | d :: r, acc, st => if s.ok st then (setTg T d en).bind fun en' => (tt en' st).bind fun p => if p.1 = true then (te en' p.2).bind fun q => if acc.length < sizeLine then lcL s T tt te en r (acc ++ [q.1]) q.2 else none else lcL s T tt te en r acc p.2 else none
noncomputable def mLc (mu : Bool) (mi : MI) (T : Tg) (tt : MB) (te : ME) (vs : List Nat) : ME := fun en st => (mi en st).bind fun p => (lcL p.1 T tt te (wipeE en vs) p.1.ds [] p.2).map fun q => alloc mu q.1 q.2
def mYes : MB := fun _ st => some (true, st)
theorem bm_yes {C : Cy} {σ : L2.St} {H : Hp} {Q : Bool → Hp → Prop} : bM C mYes σ H Q → tYes σ H Q := by
  rintro ⟨H0, as, en, st, b, st', e, w, hm, k⟩
  cases hm
  exact k H0 as H Le.refl w
theorem WR.hold {C : Cy} {H0 : Hb} {H : Hp} {as : List Addr} {st : Sto} (w : WR C H0 as st H) {p : Addr} {o : List V} (hp : H p = none) : WR C ⟨H0.h, (p, o) :: H0.g⟩ as st (upd H p (.lst o)) := by
  have h0 : H0.h p = none := w.ex.free hp
  have np : p ∉ as := fun z => by
    obtain ⟨u, hu⟩ := w.liv p z
    rw [hp] at hu
    cases hu
  refine ⟨fun b x e => ?_, w.nd, w.len, fun a ha => ?_, fun n a x ha hx => ?_, fun q hq => ?_⟩
  · rw [upd_ne (ne_of_none e h0)]
    exact w.ex b x e
  · obtain ⟨u, hu⟩ := w.liv a ha
    exact ⟨u, by rw [upd_ne (ne_of_none hu hp)]; exact hu⟩
  · rcases w.own n a x ha hx with z | ⟨z, ho, h1, h2⟩
    · exact .inl z
    · exact .inr ⟨z, ho, by rw [upd_ne (ne_of_none h1 hp)]; exact h1, h2.gset _⟩
  · rcases List.mem_cons.mp hq with e | hq
    · subst e
      exact ⟨h0, np, upd_same⟩
    · obtain ⟨h1, h2, h3⟩ := w.gho q hq
      exact ⟨h1, h2, by rw [upd_ne (ne_of_none h3 hp)]; exact h3⟩
/-- what is held aside is changed -/
theorem WR.rehold {C : Cy} {h0 : Hp} {g : List (Addr × List V)} {H : Hp} {as : List Addr} {st : Sto} {p : Addr} {o o' : List V} (w : WR C ⟨h0, (p, o) :: g⟩ as st H) (hg : ∀ q ∈ g, q.1 ≠ p) : WR C ⟨h0, (p, o') :: g⟩ as st (upd H p (.lst o')) := by
  obtain ⟨n0, np, hp⟩ := w.gho _ (List.mem_cons_self)
  have n0 : h0 p = none := n0
  have np : p ∉ as := np
  refine ⟨fun b x e => ?_, w.nd, w.len, fun a ha => ?_, fun n a x ha hx => ?_, fun q hq => ?_⟩
  · rw [upd_ne (ne_of_none e n0)]
    exact w.ex b x e
  · obtain ⟨u, hu⟩ := w.liv a ha
    exact ⟨u, by rw [upd_ne (fun z => np (by rw [← z]; exact ha))]; exact hu⟩
  · rcases w.own n a x ha hx with z | ⟨z, ho, h1, h2⟩
    · exact .inl z
    · exact .inr ⟨z, ho, by rw [upd_ne (fun e => np (by rw [← e]; exact List.mem_of_getElem? ha))]; exact h1, h2.gset _⟩
  · rcases List.mem_cons.mp hq with e | hq
    · subst e
      exact ⟨n0, np, upd_same⟩
    · obtain ⟨h1, h2, h3⟩ := w.gho q (List.mem_cons_of_mem _ hq)
      exact ⟨h1, h2, by rw [upd_ne (hg q hq)]; exact h3⟩
/-- it is held no more: it stands in the open, with what was held before -/
theorem WR.drop {C : Cy} {h0 : Hp} {g : List (Addr × List V)} {H : Hp} {as : List Addr} {st : Sto} {p : Addr} {o : List V} (w : WR C ⟨h0, (p, o) :: g⟩ as st H) : WR C ⟨h0, g⟩ as st H := by
  refine ⟨w.ex, w.nd, w.len, w.liv, fun n a x ha hx => ?_, fun q hq => w.gho q (List.mem_cons_of_mem _ hq)⟩
  rcases w.own n a x ha hx with z | ⟨z, ho, h1, h2⟩
  · exact .inl z
  · exact .inr ⟨z, ho, h1, h2.gset _⟩
theorem WR.openL {C : Cy} {h0 : Hp} {g : List (Addr × List V)} {H : Hp} {as : List Addr} {st : Sto} {p : Addr} {vs : List V} (w : WR C ⟨h0, (p, vs) :: g⟩ as st H) (hg : ∀ q ∈ g, q.1 ≠ p) : WR C ⟨upd h0 p (.lst vs), g⟩ as st H ∧ Le ⟨h0, g⟩ as ⟨upd h0 p (.lst vs), g⟩ as := by
  obtain ⟨n0, np, hp⟩ := w.gho _ (List.mem_cons_self)
  have n0 : h0 p = none := n0
  have np : p ∉ as := np
  have l : Le ⟨h0, g⟩ as ⟨upd h0 p (.lst vs), g⟩ as := ⟨fun b x e => (show upd h0 p (.lst vs) b = some x by rw [upd_ne (ne_of_none (H := h0) e n0)]; exact e), rfl, List.prefix_rfl⟩
  refine ⟨⟨fun b x e => ?_, w.nd, w.len, w.liv, fun n a x ha hx => ?_, fun q hq => ?_⟩, l⟩
  · have e : upd h0 p (.lst vs) b = some x := e
    by_cases hb : b = p
    · subst hb
      rw [upd_same] at e
      cases e
      exact hp
    · rw [upd_ne hb] at e
      exact w.ex b x e
  · rcases w.drop.own n a x ha hx with z | ⟨z, ho, h1, h2⟩
    · exact .inl z
    · have hap : a ≠ p := fun e => np (by rw [← e]; exact List.mem_of_getElem? ha)
      exact .inr ⟨(show upd h0 p (.lst vs) a = none by rw [upd_ne hap]; exact z), ho, h1, h2.mono l⟩
  · obtain ⟨h1, h2, h3⟩ := w.gho q (List.mem_cons_of_mem _ hq)
    exact ⟨(show upd h0 p (.lst vs) q.1 = none by rw [upd_ne (hg q hq)]; exact h1), h2, h3⟩
theorem WR.openM {C : Cy} {h0 : Hp} {g : List (Addr × List V)} {H : Hp} {as : List Addr} {st : Sto} {p : Addr} {vs : List V} {ds : List D} (w : WR C ⟨h0, (p, vs) :: g⟩ as st H) (hg : ∀ q ∈ g, q.1 ≠ p) (r : Reps C ⟨h0, g⟩ as ds vs) : WR C ⟨h0, g⟩ (as ++ [p]) (st ++ [.lst ds]) H ∧ Le ⟨h0, g⟩ as ⟨h0, g⟩ (as ++ [p]) := by
  obtain ⟨n0, np, hp⟩ := w.gho _ (List.mem_cons_self)
  have n0 : h0 p = none := n0
  have np : p ∉ as := np
  have l : Le ⟨h0, g⟩ as ⟨h0, g⟩ (as ++ [p]) := ⟨Same.refl _, rfl, List.prefix_append _ _⟩
  refine ⟨⟨w.ex, ?_, ?_, fun a ha => ?_, fun n a x ha hx => ?_, fun q hq => ?_⟩, l⟩
  · refine List.nodup_append.mpr ⟨w.nd, by simp, fun a ha b hb => ?_⟩
    have e : b = p := by simpa using hb
    subst e
    exact fun z => np (z ▸ ha)
  · simp [w.len]
  · rcases List.mem_append.mp ha with ha | ha
    · exact w.liv a ha
    · have e : a = p := by simpa using ha
      subst e
      exact ⟨_, hp⟩
  · by_cases hn : n < as.length
    · rw [List.getElem?_append_left hn] at ha
      rw [List.getElem?_append_left (by rw [← w.len]; exact hn)] at hx
      rcases w.drop.own n a x ha hx with z | ⟨z, u, h1, h2⟩
      · exact .inl z
      · exact .inr ⟨z, u, h1, h2.mono l⟩
    · have hn' : n = as.length := by
        have := (List.getElem?_eq_some_iff.mp ha).1
        rw [List.length_append] at this
        simp at this
        omega
      subst hn'
      rw [List.getElem?_append_right (Nat.le_refl _)] at ha
      rw [w.len, List.getElem?_append_right (Nat.le_refl _)] at hx
      simp at ha hx
      subst ha hx
      exact .inr ⟨n0, _, hp, vs, rfl, r.mono l⟩
  · obtain ⟨h1, h2, h3⟩ := w.gho q (List.mem_cons_of_mem _ hq)
    exact ⟨h1, fun z => (List.mem_append.mp z).elim h2 fun z => hg q hq (by simpa using z), h3⟩
theorem em_lc {C : Cy} {mu : Bool} {mi : MI} {T : Tg} {tt : MB} {te : ME} {vs : List Nat} {σ : L2.St} {H : Hp} {Q : VK} (hs : ∀ i ∈ T.slots, i ∈ vs) : eM C (mLc mu mi T tt te vs) σ H Q → tLc (iM C mi) (tgM C T) (bM C tt) (eM C te) vs σ H Q := by
  rintro ⟨H0, as, en, st, d, st', e, w, hm, k⟩
  unfold mLc at hm
  obtain ⟨⟨s, s1⟩, h1, hm⟩ := Option.bind_eq_some_iff.mp hm
  obtain ⟨⟨ys, s2⟩, h2, ea⟩ := Option.map_eq_some_iff.mp hm
  refine ⟨H0, as, en, st, s, s1, e, w, h1, fun J H1 as1 H1' l1 w1 it => fun Dl hD => ?_⟩
  have w2 := w1.hold (o := []) hD
  have hgd : ∀ q ∈ H1.g, q.1 ≠ Dl := fun q hq => ne_of_none (w1.gho q hq).2.2 hD
  refine ⟨fun i m Hx => ∃ H2 as2 st2 acc vacc, Le ⟨H1.h, H1.g⟩ as1 ⟨H2, H1.g⟩ as2 ∧ WR C ⟨H2, (Dl, vacc) :: H1.g⟩ as2 st2 Hx ∧ Reps C ⟨H2, H1.g⟩ as2 acc vacc ∧ lcL s T tt te (wipeE en vs) (s.ds.drop i) acc st2 = some (ys, s2) ∧ m = s.ds.length - i,
    ⟨s.ds.length, H1.h, as1, s1, [], [], Le.refl, w2, rfl, h2, rfl⟩, ?_⟩
  rintro i m Hx ⟨H2, as2, st2, acc, vacc, l2, w2, ra, h2, rfl⟩
  have lg : Le ⟨H1.h, (Dl, vacc) :: H1.g⟩ as1 ⟨H2, (Dl, vacc) :: H1.g⟩ as2 := l2.gset _
  have e2 : EnR C ⟨H2, (Dl, vacc) :: H1.g⟩ as2 (wipeE en vs) (L2.wipe σ vs) := (((e.mono l1).mono l2).gset _).wipe vs
  have itg := it ((Dl, vacc) :: H1.g)
  by_cases hi : i < s.ds.length
  · rw [List.drop_eq_getElem_cons hi] at h2
    unfold lcL at h2
    split at h2
    · rename_i hk
      obtain ⟨en3, h3, h2⟩ := Option.bind_eq_some_iff.mp h2
      obtain ⟨⟨b4, st4⟩, h4, h2⟩ := Option.bind_eq_some_iff.mp h2
      obtain ⟨hgo, hy⟩ := (itg _ as2 st2 Hx i lg w2 hk).1 _ (List.getElem?_eq_getElem hi)
      refine .inr ⟨hgo, fun H' => ∃ H5 as5 st5 acc5 vacc5, Le ⟨H1.h, H1.g⟩ as1 ⟨H5, H1.g⟩ as5 ∧ WR C ⟨H5, (Dl, vacc5) :: H1.g⟩ as5 st5 H' ∧ Reps C ⟨H5, H1.g⟩ as5 acc5 vacc5 ∧ lcL s T tt te (wipeE en vs) (s.ds.drop (i + 1)) acc5 st5 = some (ys, s2),
        fun H' ⟨H5, as5, st5, acc5, vacc5, a, b, c, d⟩ => ⟨s.ds.length - (i + 1), by omega, H5, as5, st5, acc5, vacc5, a, b, c, d, rfl⟩, fun x H' y => ?_⟩
      obtain ⟨⟨H3, g3⟩, as3, l3, w3, r3⟩ := hy x H' y
      cases (show g3 = _ from l3.gh)
      refine ⟨⟨H3, _⟩, as3, wipeE en vs, st2, _, en3, e2.mono l3, w3, r3, h3, fun σ5 se e5 => ⟨wipe_eq se hs, ?_⟩⟩
      refine ⟨⟨H3, _⟩, as3, en3, st2, b4, st4, e5, w3, h4, ?_⟩
      rintro ⟨H4, g4⟩ as4 H4' l4 w4
      cases (show g4 = _ from l4.gh)
      dsimp only at h2 ⊢
      have l24 : Le ⟨H2, (Dl, vacc) :: H1.g⟩ as2 ⟨H4, (Dl, vacc) :: H1.g⟩ as4 := l3.trans l4
      split
      · rename_i hb
        rw [if_pos hb] at h2
        obtain ⟨⟨y5, st5⟩, h5, h2⟩ := Option.bind_eq_some_iff.mp h2
        refine ⟨⟨H4, _⟩, as4, en3, st4, y5, st5, e5.mono l4, w4, h5, ?_⟩
        rintro yv ⟨H5, g5⟩ as5 H5' l5 w5 r5
        cases (show g5 = _ from l5.gh)
        dsimp only at h2
        split at h2
        · rename_i hz
          have l25 := l24.trans l5
          have ra5 : Reps C ⟨H5, H1.g⟩ as5 acc vacc := ra.mono (l25.gset H1.g)
          refine ⟨vacc, (w5.gho _ (List.mem_cons_self)).2.2, by rw [← ra.length]; exact hz, H5, as5, st5, acc ++ [y5], vacc ++ [yv], l2.trans (l25.gset H1.g), w5.rehold hgd, ra5.append (Reps.one (r5.gset _)), h2⟩
        · cases h2
      · rename_i hb
        rw [if_neg hb] at h2
        exact ⟨H4, as4, st4, acc, vacc, l2.trans (l24.gset H1.g), w4, ra.mono (l24.gset H1.g), h2⟩
    · cases h2
  · rw [List.drop_eq_nil_of_le (by omega)] at h2
    unfold lcL at h2
    split at h2
    · rename_i hk
      cases h2
      refine .inl ⟨(itg _ as2 _ Hx i lg w2 hk).2 (by omega), ?_⟩
      have k2 := k.mono (l1.trans l2)
      cases mu with
      | true =>
        cases ea
        obtain ⟨w6, l6⟩ := w2.openM hgd ra
        exact k2 (.ref Dl) _ _ _ l6 w6 ⟨Dl, by rw [← w2.len]; simp, rfl⟩
      | false =>
        cases ea
        obtain ⟨w6, l6⟩ := w2.openL hgd
        exact k2 (.ref Dl) _ _ _ l6 w6 ⟨Dl, vacc, rfl, upd_same, ra.mono l6⟩
    · cases h2
end My


namespace My
open PySem PySem.Spec PyProof.Rows L2

/-! ### what of the store is left behind a call -/
mutual
def clo (n : Nat) : D → Bool
  | .loc m => decide (m < n)
  | .tup ds => clos n ds
  | .lst ds => clos n ds
  | .fro ds => clos n ds
  | .fdk m _ ds => decide (m < n) && clos n ds
  | _ => true
def clos (n : Nat) : List D → Bool
  | [] => true
  | d :: ds => clo n d && clos n ds
end
def cloO (n : Nat) : SO → Bool
  | .dead => true
  | .lst ds => clos n ds
  | .dK kvs => clos n (kvs.map (·.2))
  | .dT kvs => clos n (kvs.map (·.2))
open Classical in
noncomputable def settle (st0 : Sto) (d : D) (st : Sto) : D × Sto :=
  if st.length ≤ st0.length then (d, st)
  else if clo st0.length d = true ∧ ∀ i, i < st0.length → st[i]? = st0[i]? ∨ ∃ o, st[i]? = some o ∧ cloO st0.length o = true then (d, st.take st0.length) else (d, st)
noncomputable def mDef (N n : Nat) (b : MS) : List D → Sto → Option (D × Sto) := fun ds st => if ds.length = n then (b (ds.map some ++ List.replicate (N - ds.length) none) st).bind fun p => match p.1 with
  | .rt d => some (settle st d p.2)
  | .nx _ => some (settle st .non p.2)
  | _ => none
else none
section
variable {C : Cy} {H : Hb} {as : List Addr} {n : Nat}
mutual
theorem Rep.cut : ∀ {d : D} {v : V}, Rep C H as d v → clo n d = true → Rep C H (as.take n) d v
  | .non, _, h, _ => h
  | .bl _, _, h, _ => h
  | .int _, _, h, _ => h
  | .str _, _, h, _ => h
  | .ty _, _, h, _ => h
  | .adr _, _, h, _ => h
  | .tup ds, _, ⟨a, vs, e, hs, hr⟩, c => ⟨a, vs, e, hs, Reps.cutr hr (by unfold clo at c; exact c)⟩
  | .lst ds, _, ⟨a, vs, e, hs, hr⟩, c => ⟨a, vs, e, hs, Reps.cutr hr (by unfold clo at c; exact c)⟩
  | .fro ds, _, ⟨a, vs, e, hs, hr⟩, c => ⟨a, vs, e, hs, Reps.cutr hr (by unfold clo at c; exact c)⟩
  | .loc m, _, ⟨a, ha, e⟩, c => ⟨a, by
      unfold clo at c
      rw [List.getElem?_take_of_lt (of_decide_eq_true c)]
      exact ha, e⟩
  | .fdk m ks ds, _, ⟨a, ob, vs, ha, e, hs, hl, hr⟩, c => by
      unfold clo at c
      rw [Bool.and_eq_true] at c
      exact ⟨a, ob, vs, by rw [List.getElem?_take_of_lt (of_decide_eq_true c.1)]; exact ha, e, hs, hl, Reps.cutr hr c.2⟩
  | .set _, _, h, _ => h
  | .fn _, _, h, _ => h
theorem Reps.cutr : ∀ {ds : List D} {vs : List V}, Reps C H as ds vs → clos n ds = true → Reps C H (as.take n) ds vs
  | [], _, h, _ => h
  | d :: ds, _, ⟨v, r, e, h1, h2⟩, c => by
    unfold clos at c
    rw [Bool.and_eq_true] at c
    exact ⟨v, r, e, Rep.cut h1 c.1, Reps.cutr h2 c.2⟩
end
theorem RepKV.cut {κ : Type} : ∀ {ds : List (κ × D)} {vs : List (κ × V)}, RepKV C H as ds vs → clos n (ds.map (·.2)) = true → RepKV C H (as.take n) ds vs
  | [], _, h, _ => h
  | (k, d) :: ds, _, ⟨v, r, e, h1, h2⟩, c => by
    rw [List.map_cons] at c
    unfold clos at c
    rw [Bool.and_eq_true] at c
    exact ⟨v, r, e, h1.cut c.1, RepKV.cut h2 c.2⟩
theorem RepO.cut : ∀ {o : SO} {u : HO}, RepO C H as o u → cloO n o = true → RepO C H (as.take n) o u
  | .dead, _, h, _ => h
  | .lst _, _, ⟨vs, e, h⟩, c => ⟨vs, e, h.cutr c⟩
  | .dK _, _, ⟨vs, e, h⟩, c => ⟨vs, e, h.cut c⟩
  | .dT _, _, ⟨vs, e, h⟩, c => ⟨vs, e, h.cut c⟩
mutual
theorem Rep.clo : ∀ {d : D} {v : V}, Rep C H as d v → My.clo as.length d = true
  | .non, _, _ => rfl
  | .bl _, _, _ => rfl
  | .int _, _, _ => rfl
  | .str _, _, _ => rfl
  | .ty _, _, _ => rfl
  | .adr _, _, _ => rfl
  | .tup ds, _, ⟨a, vs, e, hs, hr⟩ => by unfold My.clo; exact Reps.clo hr
  | .lst ds, _, ⟨a, vs, e, hs, hr⟩ => by unfold My.clo; exact Reps.clo hr
  | .fro ds, _, ⟨a, vs, e, hs, hr⟩ => by unfold My.clo; exact Reps.clo hr
  | .loc m, _, ⟨a, ha, e⟩ => decide_eq_true (List.getElem?_eq_some_iff.mp ha).1
  | .fdk m _ ds, _, ⟨a, ob, vs, ha, e, hs, hl, hr⟩ => by
    unfold My.clo
    rw [decide_eq_true (List.getElem?_eq_some_iff.mp ha).1, Reps.clo hr]
    rfl
  | .set _, _, _ => rfl
  | .fn _, _, _ => rfl
theorem Reps.clo : ∀ {ds : List D} {vs : List V}, Reps C H as ds vs → My.clos as.length ds = true
  | [], _, _ => rfl
  | d :: ds, _, ⟨v, r, e, h1, h2⟩ => by
    unfold clos
    rw [Rep.clo h1, Reps.clo h2]
    rfl
end
theorem RepKV.clo {κ : Type} : ∀ {ds : List (κ × D)} {vs : List (κ × V)}, RepKV C H as ds vs → My.clos as.length (ds.map (·.2)) = true
  | [], _, _ => rfl
  | (k, d) :: ds, _, ⟨v, r, e, h1, h2⟩ => by
    rw [List.map_cons]
    unfold clos
    rw [Rep.clo h1, RepKV.clo h2]
    rfl
theorem RepO.clo : ∀ {o : SO} {u : HO}, RepO C H as o u → cloO as.length o = true
  | .dead, _, _ => rfl
  | .lst _, _, ⟨vs, e, h⟩ => h.clo
  | .dK _, _, ⟨vs, e, h⟩ => h.clo
  | .dT _, _, ⟨vs, e, h⟩ => h.clo
theorem settle_ok {H0 H1 : Hb} {as0 as1 : List Addr} {st0 st1 st2 : Sto} {d d2 : D} {v : V} {Hx Hy : Hp} {Q : VK} (w0 : WR C H0 as0 st0 Hx) (l : Le H0 as0 H1 as1) (w1 : WR C H1 as1 st1 Hy) (r : Rep C H1 as1 d v) (e : settle st0 d st1 = (d2, st2)) (k : KE C H0 as0 st2 d2 Q) : Q v Hy := by
  unfold settle at e
  split at e
  · cases e
    exact k v H1 as1 Hy l w1 r
  · rename_i hl
    split at e
    · rename_i hc
      cases e
      have e0 : as1.take st0.length = as0 := by
        obtain ⟨t, rfl⟩ := l.pre
        rw [← w0.len]
        exact List.take_left' rfl
      have rc : Rep C H1 (as1.take st0.length) d v := r.cut hc.1
      rw [e0] at rc
      refine k v H1 as0 Hy ⟨l.same, l.gh, List.prefix_rfl⟩ ⟨w1.ex, w0.nd, ?_, fun a ha => ?_, fun m a o ha ho => ?_, fun q hq => ?_⟩ rc
      · rw [List.length_take, w0.len]
        omega
      · exact w1.liv a (l.pre.subset ha)
      · have hm : m < st0.length := by
          have := (List.getElem?_eq_some_iff.mp ha).1
          rw [w0.len] at this
          exact this
        rw [List.getElem?_take_of_lt hm] at ho
        rcases w1.own m a o (pre_get l.pre ha) ho with z | ⟨z, u, h1, h2⟩
        · exact .inl z
        · rcases hc.2 m hm with q | ⟨o', q1, q2⟩
          · rw [ho] at q
            rcases w0.own m a o ha q.symm with z' | ⟨z', u', h1', h2'⟩
            · exact .inl z'
            · have h3 := h2.cut (w0.len ▸ h2'.clo)
              rw [e0] at h3
              exact .inr ⟨z, u, h1, h3⟩
          · rw [ho] at q1
            cases q1
            have h3 := h2.cut q2
            rw [e0] at h3
            exact .inr ⟨z, u, h1, h3⟩
      · obtain ⟨h1, h2, h3⟩ := w1.gho q hq
        exact ⟨h1, fun z => h2 (l.pre.subset z), h3⟩
    · cases e
      exact k v H1 as1 Hy l w1 r
end

/-! ### frozen: a mutable list that is not changed any more -/
def mFrz (m : ME) : ME := fun en st => (m en st).bind fun p => match p.1 with
  | .loc n => match p.2[n]? with
    | some (.lst ds) => some (.lst ds, p.2.set n .dead)
    | _ => none
  | d => some (d, p.2)
theorem WR.frz {C : Cy} {H0 : Hb} {H : Hp} {as : List Addr} {st : Sto} (w : WR C H0 as st H) {n : Nat} {a : Addr} {vs : List V} (ha : as[n]? = some a) (hn : H0.h a = none) (h1 : H a = some (.lst vs)) : WR C ⟨upd H0.h a (.lst vs), H0.g⟩ as (st.set n .dead) H ∧ Le H0 as ⟨upd H0.h a (.lst vs), H0.g⟩ as := by
  have l : Le H0 as ⟨upd H0.h a (.lst vs), H0.g⟩ as := ⟨fun b x e => (show upd H0.h a (.lst vs) b = some x by rw [upd_ne (ne_of_none e hn)]; exact e), rfl, List.prefix_rfl⟩
  refine ⟨⟨fun b x e => ?_, w.nd, by rw [List.length_set, w.len], w.liv, fun m b x hb hx => ?_, fun q hq => ?_⟩, l⟩
  · have e : upd H0.h a (.lst vs) b = some x := e
    by_cases hb : b = a
    · subst hb
      rw [upd_same] at e
      rw [← e]
      exact h1
    · rw [upd_ne hb] at e
      exact w.ex b x e
  · by_cases e : m = n
    · subst e
      have hl : m < st.length := by
        have := (List.getElem?_eq_some_iff.mp ha).1
        rw [w.len] at this
        exact this
      rw [List.getElem?_set_self hl] at hx
      cases hx
      exact .inl rfl
    · rw [List.getElem?_set_ne (Ne.symm e)] at hx
      have hba : b ≠ a := fun z => by
        subst z
        obtain ⟨h1, e1⟩ := List.getElem?_eq_some_iff.mp ha
        obtain ⟨h2, e2⟩ := List.getElem?_eq_some_iff.mp hb
        exact e ((List.getElem_inj w.nd).mp (e2.trans e1.symm))
      rcases w.own m b x hb hx with z | ⟨z, u, h1, h2⟩
      · exact .inl z
      · exact .inr ⟨(show upd H0.h a (.lst vs) b = none by rw [upd_ne hba]; exact z), u, h1, h2.mono l⟩
  · obtain ⟨g1, g2, g3⟩ := w.gho q hq
    have hqa : q.1 ≠ a := fun z => g2 (by rw [z]; exact List.mem_of_getElem? ha)
    exact ⟨(show upd H0.h a (.lst vs) q.1 = none by rw [upd_ne hqa]; exact g1), g2, g3⟩
theorem em_frz {C : Cy} {m : ME} {σ : L2.St} {H : Hp} {Q : VK} : eM C (mFrz m) σ H Q → eM C m σ H Q := by
  rintro ⟨H0, as, en, st, d, st', e, w, hm, k⟩
  unfold mFrz at hm
  obtain ⟨⟨d1, s1⟩, ha, hm⟩ := Option.bind_eq_some_iff.mp hm
  refine ⟨H0, as, en, st, d1, s1, e, w, ha, fun v H1 as1 H1' l1 w1 r1 => ?_⟩
  cases d1 with
  | loc n =>
    dsimp only at hm
    split at hm
    · rename_i he
      cases hm
      obtain ⟨a, vs, ha', hn, h1, hr⟩ := w1.loc he
      obtain ⟨a', hb, rfl⟩ := r1
      rw [ha'] at hb
      cases hb
      obtain ⟨w2, l2⟩ := w1.frz ha' hn h1
      exact k _ _ _ _ (l1.trans l2) w2 ⟨a, vs, rfl, upd_same, hr.mono l2⟩
    · cases hm
  | _ =>
    cases hm
    exact k v H1 as1 H1' l1 w1 r1

/-! ### defs -/
def spM (C : Cy) (f : List D → Sto → Option (D × Sto)) : Sp := fun vs H Q _ => ∃ H0 as ds st d st', Reps C H0 as ds vs ∧ WR C H0 as st H ∧ f ds st = some (d, st') ∧ KE C H0 as st' d Q
theorem start_env {C : Cy} {H0 : Hb} {as : List Addr} {ds : List D} {vs : List V} {N : List Str} (r : Reps C H0 as ds vs) : EnR C H0 as (ds.map some ++ List.replicate (N.length - ds.length) none) (L2.start N vs) := by
  unfold L2.start
  refine ⟨by simp [r.length], fun i d h => ?_⟩
  by_cases hi : i < ds.length
  · rw [List.getElem?_append_left (by simpa using hi), List.getElem?_map] at h
    obtain ⟨d', hd, e⟩ := Option.map_eq_some_iff.mp h
    cases e
    obtain ⟨v, hv, rv⟩ := r.get hd
    exact ⟨v, by rw [List.getElem?_append_left (by rw [List.length_map, ← r.length]; exact hi), List.getElem?_map, hv]; rfl, rv⟩
  · rw [List.getElem?_append_right (by simpa using hi)] at h
    obtain ⟨_, e⟩ := List.getElem?_eq_some_iff.mp h
    rw [List.getElem_replicate] at e
    cases e
section
variable {P : Program} {w : World} {K : PySem.W.Frag} {mg : Str → Option Value} {base : Heap}
theorem x_def {x qual : Str} {st : Stmt} {f : Addr} {fd : FuncData} {N ps : List Str} {k nN nP : Nat} {mb : MS} (F : Fun K x qual st f fd) (S : FnScope N ps (defScope st)) (eN : N.length = nN) (eP : ps.length = nP)
    (body : ∀ (cdv : Value) (A : Around) (outer : List Env) (s : Shared) (H : Hp) (E : XK), Room k (A.deeper (envOfC qual (defScope st) s.heap.objs.size f cdv)) →
      PSs (cxOf CX0 P w K mg base N qual (defScope st) f cdv A outer s H E).nox (defBody st) (sM ⟨K, P, w⟩ mb)) : FnOk P w K mg base CX0 (k + 1) f fd ps (spM ⟨K, P, w⟩ (mDef nN nP mb)) := by
  subst eN eP
  have len : ∀ {ds : List D} {st : Sto} {d : D} {st' : Sto}, mDef N.length ps.length mb ds st = some (d, st') → ds.length = ps.length := by
    intro ds st d st' h
    unfold mDef at h
    split at h
    · assumption
    · cases h
  refine F.ok S (fun vs H Q E ⟨H0, as, ds, st, d, st', r, _, h, _⟩ => by rw [← r.length]; exact len h) fun cdv A outer s H vs Q E hr h => ⟨_, body cdv A outer s H E hr, ?_⟩
  obtain ⟨H0, as, ds, st, d, st', r, w0, hm, kq⟩ := h
  have hl := len hm
  unfold mDef at hm
  rw [if_pos hl] at hm
  obtain ⟨⟨o, s1⟩, h1, hm⟩ := Option.bind_eq_some_iff.mp hm
  refine ⟨H0, as, _, st, o, s1, start_env r, w0, h1, ?_⟩
  cases o with
  | nx en =>
    intro σ1 H1 as1 H1' l1 w1 e1
    exact settle_ok w0 l1 w1 (d := .non) (v := .non) rfl (Option.some.inj hm) kq
  | rt d1 =>
    intro v H1 as1 H1' l1 w1 r1
    exact settle_ok w0 l1 w1 r1 (Option.some.inj hm) kq
  | bk en => cases hm
  | ct en => cases hm
/-- a def of which nothing is asked -/
theorem x_def0 {f : Addr} {fd : FuncData} {ps : List Str} {C : Cy} {k : Nat} : FnOk P w K mg base CX0 k f fd ps (spM C fun _ _ => none) :=
  ⟨fun _ _ _ _ h => (by obtain ⟨H0, as, ds, st, d, st', r, _, h, _⟩ := h; cases h), fun _ _ _ _ _ _ _ _ _ _ _ _ _ h => (by obtain ⟨H0, as, ds, st, d, st', r, _, h, _⟩ := h; cases h)⟩
end
/-- keywords: the arguments as they are written, taken to the parameters' places -/
def pick {α : Type} (p : List Nat) (l : List α) : List α := p.filterMap fun i => l[i]?
structure KwB (fd : FuncData) (ps : List Str) (n : Nat) (ks : List Str) (p : List Nat) : Prop where
  to : ∀ us ws : List Value, us.length = n → ws.length = ks.length → bindArgs fd ⟨us, ks.zip ws⟩ = pure (ps.zip (pick p (us ++ ws)))
theorem pick_vals {xs : List V} {us : List Value} (r : Vals xs us) : ∀ p : List Nat, Vals (pick p xs) (pick p us)
  | [] => .nil
  | i :: p => by
    have ih := pick_vals r p
    unfold pick at ih ⊢
    rw [List.filterMap_cons, List.filterMap_cons]
    cases h : xs[i]? with
    | none => rw [r.none_of h]; exact ih
    | some x =>
      obtain ⟨u, hu, ru⟩ := r.get h
      rw [hu]
      exact .cons ru ih
theorem pick_reps {C : Cy} {H : Hb} {as : List Addr} {ds : List D} {vs : List V} (r : Reps C H as ds vs) : ∀ p : List Nat, Reps C H as (pick p ds) (pick p vs)
  | [] => rfl
  | i :: p => by
    have ih := pick_reps r p
    unfold pick at ih ⊢
    rw [List.filterMap_cons, List.filterMap_cons]
    cases h : ds[i]? with
    | none =>
      have h2 : vs[i]? = none := List.getElem?_eq_none_iff.mpr (by rw [← r.length]; exact List.getElem?_eq_none_iff.mp h)
      rw [h2]
      exact ih
    | some d =>
      obtain ⟨v, hv, rv⟩ := r.get h
      rw [hv]
      exact ⟨v, _, rfl, rv, ih⟩
theorem Fun.kw {K : PySem.W.Frag} {x qual : Str} {st : Stmt} {f : Addr} {fd : FuncData} {ps ks : List Str} {n : Nat} {p : List Nat} (F : Fun K x qual st f fd)
    (h : ∀ (kV doc pm : Value) (an : Option Addr) (cdv ct : Value) (us ws : List Value), us.length = n → ws.length = ks.length → bindArgs (PySem.W.fnOf x qual (defArgs st) (defBody st) (defScope st) .none kV doc pm an cdv ct) ⟨us, ks.zip ws⟩ = pure (ps.zip (pick p (us ++ ws)))) : KwB fd ps n ks p := by
  obtain ⟨oc, od, kV, doc, pm, an, cdv, ct, osl, rfl, lk, hcd⟩ := F.ex
  exact ⟨h kV doc pm an cdv ct⟩
/-- keyword arguments -/
def mCbK (g : List D → Sto → Option (D × Sto)) (n m : Nat) (pm : List Nat) (a b : MA) : ME := fun en st => (a en st).bind fun p => (b en p.2).bind fun q => if p.1.length = n ∧ q.1.length = m then g (pick pm (p.1 ++ q.1)) q.2 else none
section
variable {X : Cx} {k : Nat} {f : Addr} {fd : FuncData} {ps ks : List Str} {x : Str} {p pos : Pos} {e : Expr} {es : List Expr} {kws : List Keyword} {ma mk : MA} {g : List D → Sto → Option (D × Sto)} {n : Nat} {pm : List Nat}
theorem PK.imp {t t' : TA} (h : PK X kws t) (i : ∀ σ H Q, t' σ H Q → t σ H Q) : PK X kws t' := ⟨fun pos pins s σ H Q I w => h.run pos pins s σ H Q I (i σ H Q w)⟩
theorem x_call (G : FnOk X.prog X.w X.K X.mg X.base CX0 k f fd ps (spM (cyOf X) g)) (hr : Room k X.A) (hg : Gl X x) (hm : X.mg x = some (.ref f)) (hk : PySem.W.keepIn X.K (.ref f) = true) (hb : Binds X.K fd ps [])
    (ha : PA X (e :: es) (aM (cyOf X) ma)) (hdb : (x == ("__debug__" : Str)) = false := by decide) (he : starEach (e :: es) X.env = (false, eval e X.env) :: starEach es X.env := by rfl) (hpl : (backTo pos (starEach es X.env)).any (·.1) = false := by rfl) :
    PE X (.Call (.Name x p) (e :: es) [] pos) (eM (cyOf X) (mCb g ma)) := by
  refine PE.imp (pe_call G hr hg hm hk hb .nil pass0 ha hdb he hpl) fun σ H Q => ?_
  rintro ⟨H0, as, en, st, d, st', e, w, hm, k⟩
  unfold mCb at hm
  obtain ⟨⟨da, s1⟩, ha, hm⟩ := Option.bind_eq_some_iff.mp hm
  refine ⟨H0, as, en, st, da, s1, e, w, ha, fun vs H1 as1 H1' l1 w1 r1 => ?_⟩
  exact ⟨H1, as1, da, s1, d, st', by rw [List.append_nil]; exact r1, w1, hm, k.mono l1⟩
theorem x_call0 (G : FnOk X.prog X.w X.K X.mg X.base CX0 k f fd ps (spM (cyOf X) g)) (hr : Room k X.A) (hg : Gl X x) (hm : X.mg x = some (.ref f)) (hk : PySem.W.keepIn X.K (.ref f) = true) (hb : Binds X.K fd ps [])
    (hdb : (x == ("__debug__" : Str)) = false := by decide) : PE X (.Call (.Name x p) [] [] pos) (eM (cyOf X) (mCb g mNil)) := by
  refine PE.imp (pe_call0 G hr hg hm hk hb .nil pass0 hdb) fun σ H Q => ?_
  rintro ⟨H0, as, en, st, d, st', e, w, hm, k⟩
  exact ⟨H0, as, [], st, d, st', rfl, w, hm, k⟩
theorem run_kw {pins : List (Addr × Obj)} {σ : L2.St} {H : Hp} {s : Shared} {Q : VK} {us ws : List Value} {vs zs : List V} (G : FnOk X.prog X.w X.K X.mg X.base CX0 k f fd ps (spM (cyOf X) g)) (hr : Room k X.A) (hb : KwB fd ps n ks pm)
    (I : Inv X pins σ H s) (r : Vals vs us) (rz : Vals zs ws) (l1 : vs.length = n) (l2 : zs.length = ks.length) (h : spM (cyOf X) g (pick pm (vs ++ zs)) H Q E0) : wpAny (model X.prog X.w) X.A (call (.ref f) us (ks.zip ws)) (EP X pins σ Q) X.xe s := by
  refine wpAny_call (codeAny_mono (G.run X.A X.stack s H ⟨us, ks.zip ws⟩ (pick pm (us ++ ws)) (pick pm (vs ++ zs)) Q E0 hr I.env0 (.of_eq (hb.to us ws (by rw [← r.length]; exact l1) (by rw [← rz.length]; exact l2))) (pick_vals (r.append rz) pm) h) fun r s' hq => ?_)
  cases r with
  | error e => exact False.elim hq
  | ok fl =>
    cases fl with
    | ret u => exact I.after hq
    | next => exact False.elim hq
    | brk => exact False.elim hq
    | cont => exact False.elim hq
theorem x_callK0 (G : FnOk X.prog X.w X.K X.mg X.base CX0 k f fd ps (spM (cyOf X) g)) (hr : Room k X.A) (hg : Gl X x) (hm : X.mg x = some (.ref f)) (hk : PySem.W.keepIn X.K (.ref f) = true) (hb : KwB fd ps 0 ks pm) (hkw : PK X kws (aM (cyOf X) mk))
    (hall : (backToKw pos (keywordEach kws X.env)).all (·.1.isSome) = true := by rfl) (hks : (backToKw pos (keywordEach kws X.env)).filterMap (·.1) = ks := by rfl) (hdb : (x == ("__debug__" : Str)) = false := by decide)
    (hpl : ((backTo pos (starEach [] X.env)).any (·.1) || (backToKw pos (keywordEach kws X.env)).any (·.1.isNone)) = false := by rfl) :
    PE X (.Call (.Name x p) [] kws pos) (eM (cyOf X) (mCbK g 0 ks.length pm mNil mk)) := by
  refine ⟨fun pins s σ H Q I h => ?_⟩
  refine wpAny_Call_Name_kw (ld_glob I hg hm ?_ hdb)
  refine PySem.W.callWith_KW0 (h₀ := X.base) I.ok.mod.kin hk hall ?_ hpl
  obtain ⟨H0, as, en, st, d, st', e, w, hm, k⟩ := h
  unfold mCbK at hm
  obtain ⟨⟨da, s1⟩, ha, hm⟩ := Option.bind_eq_some_iff.mp hm
  cases ha
  obtain ⟨⟨db, s2⟩, hb', hm⟩ := Option.bind_eq_some_iff.mp hm
  dsimp only at hm
  split at hm
  · rename_i hl
    refine thn (hkw.run pos pins s σ H (fun zs H2 => zs.length = ks.length ∧ spM (cyOf X) g (pick pm zs) H2 Q E0) I ⟨H0, as, en, st, db, s2, e, w, hb', fun vs H1 as1 H1' l1 w1 r1 => ⟨by rw [← r1.length]; exact hl.2, H1, as1, pick pm db, s2, d, st', pick_reps r1 pm, w1, hm, k.mono l1⟩⟩) fun ws s2 ⟨zs, H2, I2, rz, q1, q2⟩ => ⟨I2.kIn, ?_⟩
    rw [hks]
    exact run_kw (us := []) (vs := []) G hr hb I2 .nil rz rfl q1 q2
  · cases hm
theorem x_callK (G : FnOk X.prog X.w X.K X.mg X.base CX0 k f fd ps (spM (cyOf X) g)) (hr : Room k X.A) (hg : Gl X x) (hm : X.mg x = some (.ref f)) (hk : PySem.W.keepIn X.K (.ref f) = true) (hb : KwB fd ps n ks pm) (ha : PA X (e :: es) (aM (cyOf X) ma)) (hkw : PK X kws (aM (cyOf X) mk))
    (hall : (backToKw pos (keywordEach kws X.env)).all (·.1.isSome) = true := by rfl) (hks : (backToKw pos (keywordEach kws X.env)).filterMap (·.1) = ks := by rfl) (hdb : (x == ("__debug__" : Str)) = false := by decide)
    (he : starEach (e :: es) X.env = (false, eval e X.env) :: starEach es X.env := by rfl)
    (hpl : ((backTo pos (starEach (e :: es) X.env)).any (·.1) || (backToKw pos (keywordEach kws X.env)).any (·.1.isNone)) = false := by rfl) :
    PE X (.Call (.Name x p) (e :: es) kws pos) (eM (cyOf X) (mCbK g n ks.length pm ma mk)) := by
  refine ⟨fun pins s σ H Q I h => ?_⟩
  refine wpAny_Call_Name_kw (ld_glob I hg hm ?_ hdb)
  obtain ⟨H0, as, en, st, d, st', e', w, hm, k⟩ := h
  unfold mCbK at hm
  obtain ⟨⟨da, s1⟩, ha', hm⟩ := Option.bind_eq_some_iff.mp hm
  obtain ⟨⟨db, s2⟩, hb', hm⟩ := Option.bind_eq_some_iff.mp hm
  dsimp only at hm
  split at hm
  · rename_i hl
    refine PySem.W.callWith_KW (h₀ := X.base) I.ok.mod.kin hk hall (thn (ha.run pos pins s σ H (fun vs H1 => vs.length = n ∧ aM (cyOf X) mk σ H1 fun zs H2 => zs.length = ks.length ∧ spM (cyOf X) g (pick pm (vs ++ zs)) H2 Q E0) I
      ⟨H0, as, en, st, da, s1, e', w, ha', fun vs H1 as1 H1' l1 w1 r1 => ⟨by rw [← r1.length]; exact hl.1, H1, as1, en, s1, db, s2, e'.mono l1, w1, hb', fun zs H2 as2 H2' l2 w2 r2 => ⟨by rw [← r2.length]; exact hl.2, H2, as2, pick pm (da ++ db), s2, d, st', pick_reps ((r1.mono l2).append r2) pm, w2, hm, k.mono (l1.trans l2)⟩⟩⟩) fun us s1 ⟨vs, H1, I1, r, q0, q⟩ => ?_) hpl he
    refine thn (hkw.run pos pins s1 σ H1 _ I1 q) fun ws s2 ⟨zs, H2, I2, rz, q1, q2⟩ => ⟨I2.kIn, ?_⟩
    rw [hks]
    exact run_kw G hr hb I2 r rz q0 q1 q2
  · cases hm
end
end My


namespace My
open PySem PySem.Spec PyProof.Rows L2

section
variable {X : Cx} {e a b : Expr} {es : List Expr} {ma mb : ME} {mr : MA} {mc md : MB} {pos p : Pos} {x : Str}
/-! ### names, constants -/
theorem x_v (i : Nat) (hN : X.N[i]? = some x := by rfl) (hv : Vis X.env.scope x := by first | exact Or.inl rfl | exact Or.inr (Or.inl rfl) | exact Or.inr (Or.inr rfl)) (hd : (x == ("__debug__" : Str)) = false := by decide)
    (hcd : (x == ("__classdict__" : Str)) = false := by decide) : PE X (.Name x pos) (eM (cyOf X) (mV i)) := PE.imp (pv i hN hv hd hcd) fun _ _ _ => em_v
theorem x_int {i : Int} {j} : PE X (.Constant (.int i) j pos) (eM (cyOf X) (mC (.int i))) := PE.imp pe_int fun _ _ _ => em_c fun _ _ => rfl
theorem x_bl {i : Bool} {j} : PE X (.Constant (.bool i) j pos) (eM (cyOf X) (mC (.bl i))) := PE.imp pe_bl fun _ _ _ => em_c fun _ _ => rfl
theorem x_non {j} : PE X (.Constant .none j pos) (eM (cyOf X) (mC .non)) := PE.imp pe_non fun _ _ _ => em_c fun _ _ => rfl
theorem x_str {i : Str} {j} : PE X (.Constant (.str i) j pos) (eM (cyOf X) (mC (.str i))) := PE.imp pe_str fun _ _ _ => em_c fun _ _ => rfl
theorem x_ty {n : String} (hg : Gl X x) (hm : X.mg x = none) (hv : bootBuiltins x = some (.type n)) (hn : x ≠ "__name__" := by decide) (hd : (x == ("__debug__" : Str)) = false := by decide) : PE X (.Name x pos) (eM (cyOf X) (mC (.ty n))) := PE.imp (pe_bltn hg hm hv (v := .ty n) rfl hn hd) fun _ _ _ => em_c fun _ _ => rfl
/-! ### operators -/
theorem x_op {op : Operator} {r : R2} {f : D → D → Sto → Option (D × Sto)} (ho : OpR X (binaryOp op) r) (ok : Ok2 (cyOf X) r f) (ha : PE X a (eM (cyOf X) ma)) (hb : PE X b (eM (cyOf X) mb)) : PE X (.BinOp a op b pos) (eM (cyOf X) (mOp f ma mb)) := PE.imp (pe_op ho ha hb) fun _ _ _ => em_op ok
theorem x_add (mu : Bool) (ha : PE X a (eM (cyOf X) ma)) (hb : PE X b (eM (cyOf X) mb)) : PE X (.BinOp a .Add b pos) (eM (cyOf X) (mOp (fAdd mu) ma mb)) := x_op op_addA ok_add ha hb
theorem x_sub (ha : PE X a (eM (cyOf X) ma)) (hb : PE X b (eM (cyOf X) mb)) : PE X (.BinOp a .Sub b pos) (eM (cyOf X) (mOp fSub ma mb)) := x_op op_sub ok_sub ha hb
theorem x_mul (mu : Bool) (ha : PE X a (eM (cyOf X) ma)) (hb : PE X b (eM (cyOf X) mb)) : PE X (.BinOp a .Mult b pos) (eM (cyOf X) (mOp (fMul mu) ma mb)) := x_op op_mulA ok_mul ha hb
theorem x_fdiv (ha : PE X a (eM (cyOf X) ma)) (hb : PE X b (eM (cyOf X) mb)) : PE X (.BinOp a .FloorDiv b pos) (eM (cyOf X) (mOp fDiv ma mb)) :=
  x_op op_fdivW (ok_fI fun i j h => by
    unfold cDiv at h
    rw [Bool.and_eq_true] at h
    exact ⟨of_decide_eq_true h.1, of_decide_eq_true h.2⟩) ha hb
theorem x_mod (ha : PE X a (eM (cyOf X) ma)) (hb : PE X b (eM (cyOf X) mb)) : PE X (.BinOp a .Mod b pos) (eM (cyOf X) (mOp fMod ma mb)) := x_op op_mod (ok_fI fun i j h => of_decide_eq_true h) ha hb
theorem x_pow (ha : PE X a (eM (cyOf X) ma)) (hb : PE X b (eM (cyOf X) mb)) : PE X (.BinOp a .Pow b pos) (eM (cyOf X) (mOp fPow ma mb)) := x_op op_pow (ok_fI fun i j h => cPow_ok h) ha hb
theorem x_shl (ha : PE X a (eM (cyOf X) ma)) (hb : PE X b (eM (cyOf X) mb)) : PE X (.BinOp a .LShift b pos) (eM (cyOf X) (mOp fShl ma mb)) := x_op op_shl (ok_fI fun i j h => cPow_ok h) ha hb
theorem x_neg (ha : PE X a (eM (cyOf X) ma)) : PE X (.UnaryOp .USub a pos) (eM (cyOf X) (mUn fNeg ma)) := PE.imp (pe_un un_neg ha) fun _ _ _ => em_un ok_neg
/-! ### comparisons -/
theorem x_cmp {op : CmpOp} {r : R2} {f : D → D → Sto → Option (D × Sto)} (ho : OpR X (compareOp op) r) (ok : Ok2 (cyOf X) r f) (ha : PE X a (eM (cyOf X) ma)) (hb : PE X b (eM (cyOf X) mb)) (hm : behindInMarks op b = false) : PE X (.Compare a [op] [b] pos) (eM (cyOf X) (mOp f ma mb)) := PE.imp (pe_cmpR ho ha hb hm) fun _ _ _ => em_op ok
theorem y_cmp {op : CmpOp} {r : R2} {f : D → D → Sto → Option (D × Sto)} (ho : OpR X (compareOp op) r) (ok : Ok2 (cyOf X) r f) (ha : PE X a (eM (cyOf X) ma)) (hb : PE X b (eM (cyOf X) mb)) (hm : behindInMarks op b = false) : PT X (.Compare a [op] [b] pos) (bM (cyOf X) (mTB (mOp f ma mb))) := PT.imp (pt_cmpR ho ha hb hm) fun _ _ _ h => em_op ok (bm_bool h)
theorem k_lt : OpR X (compareOp .Lt) rLtA ∧ Ok2 (cyOf X) rLtA fLt := ⟨op_ltA, ok_lt⟩
theorem k_le : OpR X (compareOp .LtE) (rI0 fun i j => .bl (decide (i ≤ j))) ∧ Ok2 (cyOf X) (rI0 fun i j => .bl (decide (i ≤ j))) fLe := ⟨op_le, ok_fB⟩
theorem k_gt : OpR X (compareOp .Gt) (rI0 fun i j => .bl (decide (j < i))) ∧ Ok2 (cyOf X) (rI0 fun i j => .bl (decide (j < i))) fGt := ⟨op_gt, ok_fB⟩
theorem k_ge : OpR X (compareOp .GtE) (rI0 fun i j => .bl (decide (j ≤ i))) ∧ Ok2 (cyOf X) (rI0 fun i j => .bl (decide (j ≤ i))) fGe := ⟨op_ge, ok_fB⟩
theorem k_eq {k : Nat} (hr : Room k X.A) : OpR X (compareOp .Eq) (rEqA X.K) ∧ Ok2 (cyOf X) (rEqA X.K) fEq := ⟨op_eqA hr.units, ok_eq⟩
theorem k_ne {k : Nat} (hr : Room k X.A) : OpR X (compareOp .NotEq) (rNeA X.K) ∧ Ok2 (cyOf X) (rNeA X.K) fNe := ⟨op_neA hr.units, ok_ne⟩
theorem k_in : OpR X (compareOp .In) (rIn X.K false) ∧ Ok2 (cyOf X) (rIn X.K false) (fIn false) := ⟨op_in_seq, ok_in⟩
theorem k_ni : OpR X (compareOp .NotIn) (rIn X.K true) ∧ Ok2 (cyOf X) (rIn X.K true) (fIn true) := ⟨op_notIn_seq, ok_in⟩
theorem k_is : OpR X (compareOp .Is) (fun x y H Q => y = .non ∧ Q (.bl (decide (x = .non))) H) ∧ Ok2 (cyOf X) (fun x y H Q => y = .non ∧ Q (.bl (decide (x = .non))) H) (fIsN false) := ⟨op_isN, ok_isN⟩
theorem k_isnot : OpR X (compareOp .IsNot) (fun x y H Q => y = .non ∧ Q (.bl (!decide (x = .non))) H) ∧ Ok2 (cyOf X) (fun x y H Q => y = .non ∧ Q (.bl (!decide (x = .non))) H) (fIsN true) := ⟨op_notN, ok_notN⟩
theorem x_k {op : CmpOp} {r : R2} {f : D → D → Sto → Option (D × Sto)} (h : OpR X (compareOp op) r ∧ Ok2 (cyOf X) r f) (ha : PE X a (eM (cyOf X) ma)) (hb : PE X b (eM (cyOf X) mb)) (hm : behindInMarks op b = false := by first | exact nomark _ | rfl) : PE X (.Compare a [op] [b] pos) (eM (cyOf X) (mOp f ma mb)) := x_cmp h.1 h.2 ha hb hm
theorem y_k {op : CmpOp} {r : R2} {f : D → D → Sto → Option (D × Sto)} (h : OpR X (compareOp op) r ∧ Ok2 (cyOf X) r f) (ha : PE X a (eM (cyOf X) ma)) (hb : PE X b (eM (cyOf X) mb)) (hm : behindInMarks op b = false := by first | exact nomark _ | rfl) : PT X (.Compare a [op] [b] pos) (bM (cyOf X) (mTB (mOp f ma mb))) := y_cmp h.1 h.2 ha hb hm
/-! ### truth -/
theorem y_t (ha : PE X e (eM (cyOf X) ma)) (he : ∀ whole, isTrue e X.env whole = (do let v ← whole; standAt e.pos; holding [v] (truthy v)) := by intro _; rfl) : PT X e (bM (cyOf X) (mT ma)) := PT.imp (pt_truth ha he) fun _ _ _ h => bm_tru h
theorem y_and1 (ha : PT X a (bM (cyOf X) mc)) : PW X (.BoolOp .And [a] pos) (bM (cyOf X) mc) := pw_and1 ha
theorem y_or1 (ha : PT X a (bM (cyOf X) mc)) : PW X (.BoolOp .Or [a] pos) (bM (cyOf X) mc) := pw_or1 ha
theorem y_and (ha : PT X a (bM (cyOf X) mc)) (hb : PW X (.BoolOp .And (b :: es) pos) (bM (cyOf X) md)) : PW X (.BoolOp .And (a :: b :: es) pos) (bM (cyOf X) (mAnd mc md)) := PW.imp (pw_and ha hb) fun _ _ _ => bm_and
theorem y_or (ha : PT X a (bM (cyOf X) mc)) (hb : PW X (.BoolOp .Or (b :: es) pos) (bM (cyOf X) md)) : PW X (.BoolOp .Or (a :: b :: es) pos) (bM (cyOf X) (mOr mc md)) := PW.imp (pw_or ha hb) fun _ _ _ => bm_or
theorem y_not (ha : PT X a (bM (cyOf X) mc)) : PT X (.UnaryOp .Not a pos) (bM (cyOf X) (mNot mc)) := PT.imp (pt_not ha) fun _ _ _ => bm_not
theorem x_one {op : BoolOp} (ha : PE X a (eM (cyOf X) ma)) : PE X (.BoolOp op [a] pos) (eM (cyOf X) ma) := pe_one ha
theorem x_and (ha : PE X a (eM (cyOf X) ma)) (hb : PE X (.BoolOp .And (b :: es) pos) (eM (cyOf X) mb)) : PE X (.BoolOp .And (a :: b :: es) pos) (eM (cyOf X) (mAndV ma mb)) := PE.imp (pe_and ha hb) fun _ _ _ => em_and
theorem x_or (ha : PE X a (eM (cyOf X) ma)) (hb : PE X (.BoolOp .Or (b :: es) pos) (eM (cyOf X) mb)) : PE X (.BoolOp .Or (a :: b :: es) pos) (eM (cyOf X) (mOrV ma mb)) := PE.imp (pe_or ha hb) fun _ _ _ => em_or
theorem x_not (ha : PE X a (eM (cyOf X) ma)) : PE X (.UnaryOp .Not a pos) (eM (cyOf X) (mNotV ma)) := PE.imp (pe_not ha) fun _ _ _ => em_not
theorem x_if {c : Expr} (hc : PT X c (bM (cyOf X) mc)) (ha : PE X a (eM (cyOf X) ma)) (hb : PE X b (eM (cyOf X) mb)) : PE X (.IfExp c a b pos) (eM (cyOf X) (mIf mc ma mb)) := PE.imp (pe_ifExp hc ha hb) fun _ _ _ => em_if
/-! ### arguments, displays, subscripts -/
theorem a_nil : PA X [] (aM (cyOf X) mNil) := PA.imp pa_nil fun _ _ _ => am_nil
theorem a_cons (ha : PE X e (eM (cyOf X) ma)) (hr : PA X es (aM (cyOf X) mr)) (hs : starEach (e :: es) X.env = (false, eval e X.env) :: starEach es X.env := by rfl) : PA X (e :: es) (aM (cyOf X) (mCons ma mr)) := PA.imp (pa_cons ha hr hs) fun _ _ _ => am_cons
theorem kw_nil : PK X [] (aM (cyOf X) mNil) := PK.imp pk_nil fun _ _ _ => am_nil
theorem kw_cons {nm : Option Str} {kws : List Keyword} (ha : PE X e (eM (cyOf X) ma)) (hr : PK X kws (aM (cyOf X) mr)) : PK X (⟨nm, e, pos⟩ :: kws) (aM (cyOf X) (mCons ma mr)) := PK.imp (pk_cons ha hr) fun _ _ _ => am_cons
theorem x_tup {k} (h : PA X es (aM (cyOf X) mr)) : PE X (.Tuple es k pos) (eM (cyOf X) (mTup mr)) := PE.imp (pe_tup h) fun _ _ _ => em_tup
theorem x_lst (mu : Bool) (h : PA X es (aM (cyOf X) mr)) : PE X (.List es pos) (eM (cyOf X) (mLst mu mr)) := PE.imp (pe_lst h) fun _ _ _ => em_lst
theorem x_ix (ha : PE X a (eM (cyOf X) ma)) (hb : PE X b (eM (cyOf X) mb)) (hs : PlainIx b := by exact fun _ _ => rfl) : PE X (.Subscript a b pos) (eM (cyOf X) (mOp fIx ma mb)) := PE.imp (pe_ix ix_A ha hb hs) fun _ _ _ => em_op ok_ix
theorem o_none : PO X none (oM (cyOf X) mNone) := ⟨fun pins s σ H Q I w => po_none.run pins s σ H Q I (om_none w)⟩
theorem o_some (he : PE X e (eM (cyOf X) ma)) : PO X (some e) (oM (cyOf X) (mSome ma)) := ⟨fun pins s σ H Q I w => (po_some he).run pins s σ H Q I (om_some w)⟩
theorem x_sl (mu : Bool) {lo hi : Option Expr} {ml mh : MO} (ha : PE X a (eM (cyOf X) ma)) (hl : PO X lo (oM (cyOf X) ml)) (hh : PO X hi (oM (cyOf X) mh)) : PE X (.Subscript a (.Slice lo hi none p) pos) (eM (cyOf X) (mSl mu ma ml mh)) := PE.imp (pe_slice sl_all ha hl hh) fun _ _ _ => em_sl
theorem x_rev (mu : Bool) {k : Nat} {p1 p2 p3 : Pos} (ha : PE X a (eM (cyOf X) ma)) : PE X (.Subscript a (.Slice none none (some (.UnaryOp .USub (.Constant (.int 1) k p1) p2)) p3) pos) (eM (cyOf X) (mRev mu ma)) := PE.imp (pe_revL ha) fun _ _ _ => em_rev
/-! ### built-ins, methods -/
theorem x_cb {id : String} {r : List V → Hp → VK → Prop} {f : List D → Sto → Option (D × Sto)} (h : CallR X (.builtin id) r ∧ OkC (cyOf X) r f) (hg : Gl X x) (hm : X.mg x = none) (hv : bootBuiltins x = some (.builtin id)) (ha : PA X (e :: es) (aM (cyOf X) mr)) (hn : x ≠ "__name__" := by decide) (hdb : (x == ("__debug__" : Str)) = false := by decide)
    (he : starEach (e :: es) X.env = (false, eval e X.env) :: starEach es X.env := by rfl) (hpl : (backTo pos (starEach es X.env)).any (·.1) = false := by rfl) : PE X (.Call (.Name x p) (e :: es) [] pos) (eM (cyOf X) (mCb f mr)) := PE.imp (pe_callB h.1 hg hm hv ha hn hdb he hpl) fun _ _ _ => em_cb h.2
theorem x_ct {id : String} {r : List V → Hp → VK → Prop} {f : List D → Sto → Option (D × Sto)} (h : CallR X (.type id) r ∧ OkC (cyOf X) r f) (hg : Gl X x) (hm : X.mg x = none) (hv : bootBuiltins x = some (.type id)) (ha : PA X (e :: es) (aM (cyOf X) mr)) (hn : x ≠ "__name__" := by decide) (hdb : (x == ("__debug__" : Str)) = false := by decide)
    (he : starEach (e :: es) X.env = (false, eval e X.env) :: starEach es X.env := by rfl) (hpl : (backTo pos (starEach es X.env)).any (·.1) = false := by rfl) : PE X (.Call (.Name x p) (e :: es) [] pos) (eM (cyOf X) (mCb f mr)) := PE.imp (pe_callTy h.1 hg hm hv ha hn hdb he hpl) fun _ _ _ => em_cb h.2
theorem x_cf {id : String} {r : List V → Hp → VK → Prop} {f : List D → Sto → Option (D × Sto)} (h : CallR X (.builtin id) r ∧ OkC (cyOf X) r f) (hg : Gl X x) (hm : X.mg x = some (.builtin id)) (ha : PA X (e :: es) (aM (cyOf X) mr)) (hdb : (x == ("__debug__" : Str)) = false := by decide)
    (he : starEach (e :: es) X.env = (false, eval e X.env) :: starEach es X.env := by rfl) (hpl : (backTo pos (starEach es X.env)).any (·.1) = false := by rfl) : PE X (.Call (.Name x p) (e :: es) [] pos) (eM (cyOf X) (mCb f mr)) := PE.imp (pe_callBfun h.1 hg hm ha hdb he hpl) fun _ _ _ => em_cb h.2
theorem c_len : CallR X (.builtin "len") (rLenA X.K) ∧ OkC (cyOf X) (rLenA X.K) fLen := ⟨call_lenA, ok_len⟩
theorem c_abs : CallR X (.builtin "abs") (fun xs H Q => ∃ i, xs = [.int i] ∧ Q (.int (if i < 0 then -i else i)) H) ∧ OkC (cyOf X) (fun xs H Q => ∃ i, xs = [.int i] ∧ Q (.int (if i < 0 then -i else i)) H) fAbs := ⟨call_abs, ok_abs⟩
theorem c_max (hc : X.calm = true := by rfl) : CallR X (.builtin "max") (rMaxA X.K) ∧ OkC (cyOf X) (rMaxA X.K) fMaxL := ⟨call_maxA hc, ok_max⟩
theorem c_min (hc : X.calm = true := by rfl) : CallR X (.builtin "min") (rMinA X.K) ∧ OkC (cyOf X) (rMinA X.K) fMinL := ⟨call_minA hc, ok_min⟩
theorem c_sorted (mu : Bool) : CallR X (.builtin "sorted") (rSortedI X.K) ∧ OkC (cyOf X) (rSortedI X.K) (fSorted mu) := ⟨cr_sortedI, ok_sorted⟩
theorem c_sum (hc : X.calm = true := by rfl) : CallR X (.builtin "sum") (rSum X.K) ∧ OkC (cyOf X) (rSum X.K) fSum := ⟨cr_sum hc, ok_sum⟩
theorem c_all (hc : X.calm = true := by rfl) : CallR X (.builtin "all") (rAll X.K) ∧ OkC (cyOf X) (rAll X.K) fAll := ⟨cr_all hc, ok_all⟩
theorem c_any (hc : X.calm = true := by rfl) : CallR X (.builtin "any") (rAny X.K) ∧ OkC (cyOf X) (rAny X.K) fAny := ⟨cr_any hc, ok_any⟩
theorem c_isi : CallR X (.builtin "isinstance") (rIsi X.K) ∧ OkC (cyOf X) (rIsi X.K) fIsi := ⟨call_isi, ok_isi⟩
theorem c_gcd : CallR X (.builtin "math.gcd") rGcd ∧ OkC (cyOf X) rGcd fGcd := ⟨cr_gcd, ok_gcd⟩
theorem c_int : CallR X (.type "int") (fun xs H Q => (∃ i, xs = [.int i] ∧ Q (.int i) H) ∨ ∃ k, xs = [.bl k] ∧ Q (.int (if k then 1 else 0)) H) ∧ OkC (cyOf X) (fun xs H Q => (∃ i, xs = [.int i] ∧ Q (.int i) H) ∨ ∃ k, xs = [.bl k] ∧ Q (.int (if k then 1 else 0)) H) fInt := ⟨call_int1, ok_int⟩
theorem c_tuple : CallR X (.type "tuple") (fun xs H Q => ∃ p ys, xs = [.ref p] ∧ ((SqL X.K H p ys ∧ ∀ l, H l = none → Q (.ref l) (upd H l (.tup ys))) ∨ (SqT X.K H p ys ∧ Q (.ref p) H))) ∧ OkC (cyOf X) (fun xs H Q => ∃ p ys, xs = [.ref p] ∧ ((SqL X.K H p ys ∧ ∀ l, H l = none → Q (.ref l) (upd H l (.tup ys))) ∨ (SqT X.K H p ys ∧ Q (.ref p) H))) fTuple := ⟨call_tuple_of, ok_tuple⟩
theorem c_list (mu : Bool) : CallR X (.type "list") (fun xs H Q => ∃ p ys, xs = [.ref p] ∧ (SqL X.K H p ys ∨ SqT X.K H p ys) ∧ ∀ l, H l = none → Q (.ref l) (upd H l (.lst ys))) ∧ OkC (cyOf X) (fun xs H Q => ∃ p ys, xs = [.ref p] ∧ (SqL X.K H p ys ∨ SqT X.K H p ys) ∧ ∀ l, H l = none → Q (.ref l) (upd H l (.lst ys))) (fList mu) := ⟨call_list_of, ok_list⟩
theorem x_append {apos cpos : Pos} {o e : Expr} {mo : ME} (ho : PE X o (eM (cyOf X) mo)) (ha : PA X [e] (aM (cyOf X) mr)) (hbase : attributeBase o "append" X.env (eval o X.env) = eval o X.env := by rfl)
    (hfew : ((backTo cpos (starEach [e] X.env)).all (fun x => !x.1) && (backToKw cpos (keywordEach [] X.env)).all (fun x => x.1.isSome) && decide ([e].length + ([] : List Keyword).length + (if ([] : List Keyword).isEmpty then 0 else 1) < 30)) = true := by rfl)
    (hline : (apos.endLine == cpos.line) = true := by rfl) (hs : starEach [e] X.env = (false, eval e X.env) :: starEach [] X.env := by rfl) (hplain : (backTo cpos (starEach [] X.env)).any (·.1) = false := by rfl) :
    PE X (.Call (.Attribute o "append" apos) [e] [] cpos) (eM (cyOf X) (mMt fAppend mo mr)) := PE.imp (pe_bm PySem.F.plainAttrs_list PySem.F.slot_list_append PySem.F.type_list_append mt_append ho ha hbase hfew hline hs hplain) fun _ _ _ => em_mt ok_append
theorem x_extend {apos cpos : Pos} {o e : Expr} {mo : ME} (ho : PE X o (eM (cyOf X) mo)) (ha : PA X [e] (aM (cyOf X) mr)) (hbase : attributeBase o "extend" X.env (eval o X.env) = eval o X.env := by rfl)
    (hfew : ((backTo cpos (starEach [e] X.env)).all (fun x => !x.1) && (backToKw cpos (keywordEach [] X.env)).all (fun x => x.1.isSome) && decide ([e].length + ([] : List Keyword).length + (if ([] : List Keyword).isEmpty then 0 else 1) < 30)) = true := by rfl)
    (hline : (apos.endLine == cpos.line) = true := by rfl) (hs : starEach [e] X.env = (false, eval e X.env) :: starEach [] X.env := by rfl) (hplain : (backTo cpos (starEach [] X.env)).any (·.1) = false := by rfl) :
    PE X (.Call (.Attribute o "extend" apos) [e] [] cpos) (eM (cyOf X) (mMt fExtend mo mr)) := PE.imp (pe_bm PySem.F.plainAttrs_list PySem.F.slot_list_extend PySem.F.type_list_extend mt_extend ho ha hbase hfew hline hs hplain) fun _ _ _ => em_mt ok_extend
theorem x_popi {apos cpos : Pos} {o e : Expr} {mo : ME} (ho : PE X o (eM (cyOf X) mo)) (ha : PA X [e] (aM (cyOf X) mr)) (hbase : attributeBase o "pop" X.env (eval o X.env) = eval o X.env := by rfl)
    (hfew : ((backTo cpos (starEach [e] X.env)).all (fun x => !x.1) && (backToKw cpos (keywordEach [] X.env)).all (fun x => x.1.isSome) && decide ([e].length + ([] : List Keyword).length + (if ([] : List Keyword).isEmpty then 0 else 1) < 30)) = true := by rfl)
    (hline : (apos.endLine == cpos.line) = true := by rfl) (hs : starEach [e] X.env = (false, eval e X.env) :: starEach [] X.env := by rfl) (hplain : (backTo cpos (starEach [] X.env)).any (·.1) = false := by rfl) :
    PE X (.Call (.Attribute o "pop" apos) [e] [] cpos) (eM (cyOf X) (mMt fPop mo mr)) := PE.imp (pe_bm PySem.F.plainAttrs_list PySem.F.slot_list_pop PySem.F.type_list_pop mt_popA ho ha hbase hfew hline hs hplain) fun _ _ _ => em_mt ok_pop
theorem x_pop {apos cpos : Pos} {o : Expr} {mo : ME} (ho : PE X o (eM (cyOf X) mo)) (hbase : attributeBase o "pop" X.env (eval o X.env) = eval o X.env := by rfl) (hline : (apos.endLine == cpos.line) = true := by rfl) :
    PE X (.Call (.Attribute o "pop" apos) [] [] cpos) (eM (cyOf X) (mMt fPop mo mNil)) := PE.imp (pe_bm0 PySem.F.plainAttrs_list PySem.F.slot_list_pop PySem.F.type_list_pop mt_popA ho hbase hline) fun _ _ _ => em_mt0 ok_pop
theorem x_frz (ha : PE X e (eM (cyOf X) ma)) : PE X e (eM (cyOf X) (mFrz ma)) := PE.imp ha fun _ _ _ => em_frz
/-! ### iterables, comprehensions -/
theorem i_seq {tg : Expr} (ha : PE X e (eM (cyOf X) ma)) : PI X tg e (iM (cyOf X) (miSeq ma)) := PI.imp (pi_seq ha) fun _ _ _ => im_seq
theorem i_rng1 {tg : Expr} (hg : Gl X "range") (hm : X.mg "range" = none) (ha : PA X [a] (aM (cyOf X) mr)) (hs : starEach [a] X.env = [(false, eval a X.env)] := by rfl) : PI X tg (.Call (.Name "range" p) [a] [] pos) (iM (cyOf X) (miRng1 mr)) := PI.imp (pi_range1 hg hm ha hs) fun _ _ _ => im_rng1
theorem i_rng2 {tg : Expr} (hg : Gl X "range") (hm : X.mg "range" = none) (ha : PA X [a, b] (aM (cyOf X) mr)) (hs : starEach [a, b] X.env = [(false, eval a X.env), (false, eval b X.env)] := by rfl) (hs2 : starEach [b] X.env = [(false, eval b X.env)] := by rfl) :
    PI X tg (.Call (.Name "range" p) [a, b] [] pos) (iM (cyOf X) (miRng2 mr)) := PI.imp (pi_range2 hg hm ha hs hs2) fun _ _ _ => im_rng2
/-! ### targets -/
theorem t_name (i : Nat) (hN : X.N.Nodup) (hi : X.N[i]? = some x) (hx : Loc X.env.scope x) (hf : X.fn x = true ∨ X.env.scope.names.lookup x = some .local := by first | exact .inl rfl | exact .inr rfl | assumption) : PG X (.Name x pos) (tgM (cyOf X) (.name i)) := PG.imp (pg_name hN hi hx hf) fun _ _ _ _ => tg_name
theorem ts_nil : PGs X [] (tgsM (cyOf X) []) := PGs.imp pgs_nil fun _ _ _ _ => tgs_nil
theorem ts_cons {t : Tg} {ts : List Tg} (h1 : PG X e (tgM (cyOf X) t)) (h2 : PGs X es (tgsM (cyOf X) ts)) (hs : (assignEach (e :: es) X.env).map (·.2) = assign e X.env :: (assignEach es X.env).map (·.2) := by rfl) : PGs X (e :: es) (tgsM (cyOf X) (t :: ts)) := PGs.imp (pgs_cons h1 h2 hs) fun _ _ _ _ => tgs_cons
theorem t_tup {k : Nat} {ts : List Tg} (hc : X.calm = true) (h : PGs X es (tgsM (cyOf X) ts)) (hn : (assignEach es X.env).length = ts.length := by rfl) (hst : (assignEach es X.env).findIdx? (·.1) = none := by rfl) : PG X (.Tuple es k pos) (tgM (cyOf X) (.tup ts)) := PG.imp (pg_tup hc h hn hst) fun _ _ _ _ => tg_tup
theorem g_T {T : Tg} (h : PG X e (tgM (cyOf X) T)) : PG X e (gM (cyOf X) (mgT T)) := PG.imp h fun _ _ _ _ => gm_T
theorem g_nil : PGs X [] (gsM (cyOf X) mgNil) := PGs.imp pgs_nil fun _ _ _ _ => gs_nil
theorem g_cons {t : MG} {ts : MGs} (h1 : PG X e (gM (cyOf X) t)) (h2 : PGs X es (gsM (cyOf X) ts)) (hs : (assignEach (e :: es) X.env).map (·.2) = assign e X.env :: (assignEach es X.env).map (·.2) := by rfl) : PGs X (e :: es) (gsM (cyOf X) (mgCons t ts)) := PGs.imp (pgs_cons h1 h2 hs) fun _ _ _ _ => gs_cons
theorem g_tup {k n : Nat} {ts : MGs} (hc : X.calm = true) (h : PGs X es (gsM (cyOf X) ts)) (hn : (assignEach es X.env).length = n := by rfl) (hst : (assignEach es X.env).findIdx? (·.1) = none := by rfl) : PG X (.Tuple es k pos) (gM (cyOf X) (mgTup n ts)) := PG.imp (pg_tup hc h hn hst) fun _ _ _ _ => gm_tup
theorem g_sub (ho : PE X a (eM (cyOf X) ma)) (hi : PE X b (eM (cyOf X) mb)) (ha : ∀ v, assign (.Subscript a b pos) X.env v = (do
      let ov ← holding [v] (eval a X.env)
      let iv ← holding [v, ov] (eval b X.env)
      standAt pos
      holding [v, ov, iv] (setItem ov iv v)
      release [v, ov, iv] []) := by intro _; rfl) : PG X (.Subscript a b pos) (gM (cyOf X) (mgSub ma mb fSetL)) := PG.imp (pg_sub ho hi set_list ha) fun _ _ _ _ => gm_sub ok_setL
end
section
variable {X : Cx} {tg e : Expr} {ifs : List Expr} {scope : Scope} {own : List (Str × Nat)} {pos : Pos} {mi : MI} {T : Tg} {tt : MB} {te : ME}
theorem cs_nil : PTs X [] (bM (cyOf X) mYes) := ⟨fun pins s σ H Q I w => pts_nil.run pins s σ H Q I (bm_yes w)⟩
theorem cs_one {c : Expr} {mc : MB} (h : PT X c (bM (cyOf X) mc)) : PTs X [c] (bM (cyOf X) mc) := pts_one h
theorem x_lc (mu : Bool) {elt iter : Expr} (hc : X.calm = true) (hN : X.N.Nodup) (hi : PI X tg iter (iM (cyOf X) mi)) (ok : BlkOk X.N X.env.scope scope own) (hsl : (T.slots.all fun i => (own.map (·.2)).contains i) = true)
    (hg : ∀ (s : Shared) (H : Hp) (C : Addr) (cl : List (Str × Addr)) (fp : List Addr), PG (X.blk s H scope (compEnvC scope cl C X.env) fp) tg (tgM (cyOf X) T)) (ht : ∀ (s : Shared) (H : Hp) (C : Addr) (cl : List (Str × Addr)) (fp : List Addr), PTs (X.blk s H scope (compEnvC scope cl C X.env) fp) ifs (bM (cyOf X) tt))
    (he : ∀ (s : Shared) (H : Hp) (C : Addr) (cl : List (Str × Addr)) (fp : List Addr), PE (X.blk s H scope (compEnvC scope cl C X.env) fp) elt (eM (cyOf X) te)) (hs : ∀ x, foldedSetIterable iter X.env x = pure x := by intro _; rfl) :
    PE X (.ListComp elt [⟨tg, iter, ifs, 0⟩] scope pos) (eM (cyOf X) (mLc mu mi T tt te (own.map (·.2)))) := PE.imp (pe_lc hc hN hi ok hg ht he hs) fun _ _ _ => em_lc fun i hi => by
    have h := List.all_eq_true.mp hsl i hi
    exact List.contains_iff_mem.mp h
theorem x_setLc (mu : Bool) {elt iter : Expr} {i : Nat} {y : Str} {py spos : Pos} (hc : X.calm = true) (hN : X.N.Nodup) (hy : X.N[i]? = some y) (hyl : X.env.scope.names.lookup y = some .local)
    (hsw : swapsWith (.ListComp elt [⟨tg, iter, ifs, 0⟩] scope pos) (some (.Name y py)) spos.line X.env = pure true) (hi : PI X tg iter (iM (cyOf X) mi)) (ok : BlkOk X.N X.env.scope scope own) (hsl : (T.slots.all fun i => (own.map (·.2)).contains i) = true)
    (hg : ∀ (s : Shared) (H : Hp) (C : Addr) (cl : List (Str × Addr)) (fp : List Addr), PG (X.blk s H scope (compEnvC scope cl C X.env) fp) tg (tgM (cyOf X) T)) (ht : ∀ (s : Shared) (H : Hp) (C : Addr) (cl : List (Str × Addr)) (fp : List Addr), PTs (X.blk s H scope (compEnvC scope cl C X.env) fp) ifs (bM (cyOf X) tt))
    (he : ∀ (s : Shared) (H : Hp) (C : Addr) (cl : List (Str × Addr)) (fp : List Addr), PE (X.blk s H scope (compEnvC scope cl C X.env) fp) elt (eM (cyOf X) te)) (hs : ∀ x, foldedSetIterable iter X.env x = pure x := by intro _; rfl) :
    PS X (.Assign [.Name y py] (.ListComp elt [⟨tg, iter, ifs, 0⟩] scope pos) spos) (sM (cyOf X) (mAsg (mLc mu mi T tt te (own.map (·.2))) (mgName i))) := PS.imp (ps_setLc hc hN hy hyl hsw hi ok hg ht he hs) fun N σ H h => by
    obtain ⟨H0, as, en, st, o, st', e, w, hm, k⟩ := sm_asg h
    refine em_lc (fun i hi => by
      have h := List.all_eq_true.mp hsl i hi
      exact List.contains_iff_mem.mp h) ⟨H0, as, en, st, o, st', e, w, hm, fun v H' as' H'' l w r => ?_⟩
    exact gm_name (k v H' as' H'' l w r)
end
/-! ### statements -/
section
variable {X : Cx} {st : Stmt} {rest body sa sb : List Stmt} {m1 m2 : MS} {e c : Expr} {me : ME} {mc : MB} {pos : Pos}
theorem z_nil : PSs X [] (sM (cyOf X) mNext) := PSs.imp pss_nil fun _ _ _ => sm_next
theorem z_cons (h1 : PS X st (sM (cyOf X) m1)) (h2 : PSs X rest (sM (cyOf X) m2)) : PSs X (st :: rest) (sM (cyOf X) (mSeq m1 m2)) := PSs.imp (pss_cons h1 h2) fun _ _ _ => sm_seq
theorem z_one (h1 : PS X st (sM (cyOf X) m1)) : PSs X [st] (sM (cyOf X) m1) := pss_one h1
theorem z_pass : PS X (.Pass pos) (sM (cyOf X) mNext) := PS.imp ps_pass fun _ _ _ => sm_next
theorem z_break : PS X (.Break pos) (sM (cyOf X) mBreak) := PS.imp ps_break fun _ _ _ => sm_break
theorem z_cont : PS X (.Continue pos) (sM (cyOf X) mCont) := PS.imp ps_continue fun _ _ _ => sm_cont
theorem z_never : PS X st (sM (cyOf X) mNever) := PS.imp ps_never fun _ _ _ => sm_never
theorem z_expr (he : PE X e (eM (cyOf X) me)) (hs : swapsWith e none pos.line X.env = pure false := by rfl) : PS X (.Expr e pos) (sM (cyOf X) (mDrop me)) := PS.imp (ps_expr he hs) fun _ _ _ => sm_drop
theorem z_ret (he : PE X e (eM (cyOf X) me)) : PS X (.Return (some e) pos) (sM (cyOf X) (mRet me)) := PS.imp (ps_ret he) fun _ _ _ => sm_ret
theorem z_retN : PS X (.Return none pos) (sM (cyOf X) mRetN) := PS.imp ps_retN fun _ _ _ => sm_retN
theorem z_if (hc : PT X c (bM (cyOf X) mc)) (ha : PSs X sa (sM (cyOf X) m1)) (hb : PSs X sb (sM (cyOf X) m2)) : PS X (.If c sa sb pos) (sM (cyOf X) (mIfS mc m1 m2)) := PS.imp (ps_if hc ha hb) fun _ _ _ => sm_if
theorem z_set {x : Str} {pos' : Pos} (i : Nat) (hN : X.N.Nodup) (hi : X.N[i]? = some x) (hx : Loc X.env.scope x) (he : PE X e (eM (cyOf X) me)) (hs : swapsWith e (some (.Name x pos')) pos.line X.env = pure false := by rfl) (hf : X.fn x = true ∨ X.env.scope.names.lookup x = some .local := by first | exact .inl rfl | exact .inr rfl | assumption) :
    PS X (.Assign [.Name x pos'] e pos) (sM (cyOf X) (mAsg me (mgName i))) := PS.imp (ps_set hN hi hx he hs hf) fun N σ H h => by
    obtain ⟨H0, as, en, st, o, st', e, w, hm, k⟩ := sm_asg h
    exact ⟨H0, as, en, st, o, st', e, w, hm, fun v H' as' H'' l w r => gm_name (k v H' as' H'' l w r)⟩
theorem z_asg {tg : Expr} {g : MG} (he : PE X e (eM (cyOf X) me)) (hg : PG X tg (gM (cyOf X) g)) (hs : swapsWithSole [tg] e pos.line X.env = pure false := by rfl) (hw : swappedStores [tg] e X.env = pure none := by rfl)
    (h1 : (assignEach [tg] X.env).map (·.2) = [assign tg X.env] := by rfl) : PS X (.Assign [tg] e pos) (sM (cyOf X) (mAsg me g)) := PS.imp (ps_asg he hg hs hw h1) fun _ _ _ => sm_asg
theorem z_par (i j : Nat) {x y : Str} {a b : Expr} {mr : MA} {px py pt : Pos} {kt k2 pt2} (hc : X.calm = true) (hN : X.N.Nodup) (hi : X.N[i]? = some x) (hj : X.N[j]? = some y) (hij : i ≠ j)
    (hx : X.env.scope.names.lookup x = some .local) (hy : X.env.scope.names.lookup y = some .local) (ha : PA X [a, b] (aM (cyOf X) mr))
    (hw : swappedStores [.Tuple [.Name x px, .Name y py] kt pt] (.Tuple [a, b] k2 pt2) X.env = pure (some [x, y]) := by rfl)
    (hs : swapsWithSole [.Tuple [.Name x px, .Name y py] kt pt] (.Tuple [a, b] k2 pt2) pos.line X.env = pure false := by rfl) :
    PS X (.Assign [.Tuple [.Name x px, .Name y py] kt pt] (.Tuple [a, b] k2 pt2) pos) (sM (cyOf X) (mPar i j mr)) := PS.imp (ps_par hc hN hi hj hij hx hy ha hw hs) fun _ _ _ => sm_par
theorem z_aug {x : Str} {pos' : Pos} {op : Operator} {t : TIp} {f : D → D → Sto → Option (D × Sto)} (i : Nat) (hN : X.N.Nodup) (hi : X.N[i]? = some x) (hx : Loc X.env.scope x) (h : PIp X op t ∧ Ok2 (cyOf X) t f) (he : PE X e (eM (cyOf X) me)) (hf : X.fn x = true ∨ X.env.scope.names.lookup x = some .local := by first | exact .inl rfl | exact .inr rfl | assumption) :
    PS X (.AugAssign (.Name x pos') op e pos) (sM (cyOf X) (mAug i me f)) := PS.imp (ps_aug hN hi hx he h.1 hf) fun _ _ _ => sm_aug h.2
theorem ip_addM : PIp X .Add (ipI fun i j => i + j) ∧ Ok2 (cyOf X) (ipI fun i j => i + j) (fI (fun _ _ => true) fun i j => i + j) := ⟨ip_add, fun H0 as st H dx dy x y d st' Q w rx ry hf k => by
  obtain ⟨i, j, e1, e2, _, q⟩ := ok_fI (C := cyOf X) (P := fun _ _ => True) (fun _ _ _ => trivial) H0 as st H dx dy x y d st' Q w rx ry hf k
  exact ⟨i, j, e1, e2, q⟩⟩
theorem ip_subM : PIp X .Sub (ipI fun i j => i - j) ∧ Ok2 (cyOf X) (ipI fun i j => i - j) (fI (fun _ _ => true) fun i j => i - j) := ⟨ip_sub, fun H0 as st H dx dy x y d st' Q w rx ry hf k => by
  obtain ⟨i, j, e1, e2, _, q⟩ := ok_fI (C := cyOf X) (P := fun _ _ => True) (fun _ _ _ => trivial) H0 as st H dx dy x y d st' Q w rx ry hf k
  exact ⟨i, j, e1, e2, q⟩⟩
theorem z_while (hp : PassesOwn (model X.prog X.w) X.A X.env X.xe) (hc : PT X c (bM (cyOf X) mc)) (hb : PSs X body (sM (cyOf X) m1)) : PS X (.While c body [] pos) (sM (cyOf X) (mWh mc m1)) := PS.imp (ps_while hp hc hb) fun _ _ _ => sm_while
theorem z_for {tg iter : Expr} {mi : MI} {T : Tg} (hp : PassesOwn (model X.prog X.w) X.A X.env X.xe) (hc : X.calm = true) (hi : PI X tg iter (iM (cyOf X) mi)) (hg : PG X tg (tgM (cyOf X) T)) (hb : PSs X body (sM (cyOf X) m1))
    (hs : ∀ x, foldedSetIterable iter X.env x = pure x := by intro _; rfl) : PS X (.For tg iter body [] pos) (sM (cyOf X) (mFor mi T m1)) := PS.imp (ps_for hp hc hi hg hb hs) fun _ _ _ => sm_for
end
end My
namespace My
open PySem
/-- a def's text by places -/
def stmtAt (l : List Stmt) (i : Nat) : Stmt := l.getD i (.Pass ⟨0, 0, 0, 0⟩)
def bodyOf : Stmt → List Stmt
  | .For _ _ b _ _ => b
  | .While _ b _ _ => b
  | .If _ b _ _ => b
  | _ => []
def elseOf : Stmt → List Stmt
  | .If _ _ b _ => b
  | _ => []
end My


namespace My
open PySem PySem.Spec PyProof.Rows L2

/-! ### dicts whose keys are ints and texts -/
def keyOf : D → Option Key
  | .int i => some (.inl i)
  | .str x => some (.inr x)
  | _ => none
def keyD : Key → D
  | .inl i => .int i
  | .inr x => .str x
def valD (kvs : List (Key × D)) (k : Key) : Option D := (kvs.find? fun kv => decide (kv.1 = k)).map (·.2)
def putD (kvs : List (Key × D)) (k : Key) (d : D) : List (Key × D) :=
  if (kvs.any fun kv => decide (kv.1 = k)) = true then kvs.map (fun kv => if kv.1 = k then (kv.1, d) else kv) else kvs ++ [(k, d)]
section
variable {C : Cy} {H : Hb} {as : List Addr}
theorem rep_key {d : D} {k : Key} {v : V} (h : keyOf d = some k) (r : Rep C H as d v) : v = kV k := by
  cases d with
  | int i => cases h; exact r
  | str i => cases h; exact r
  | _ => cases h
theorem rep_keyD : ∀ k : Key, Rep C H as (keyD k) (kV k)
  | .inl _ => rfl
  | .inr _ => rfl
theorem RepKV.val : ∀ {kvs : List (Key × D)} {vs : List (Key × V)} (k : Key), RepKV C H as kvs vs → (valV vs k).isSome = (valD kvs k).isSome ∧ ∀ d, valD kvs k = some d → ∃ v, valV vs k = some v ∧ Rep C H as d v
  | [], _, k, h => by
    have h : _ = [] := h
    subst h
    exact ⟨rfl, fun d e => by cases e⟩
  | (j, d) :: kvs, _, k, h => by
    obtain ⟨v, r, rfl, h1, h2⟩ := h
    by_cases e : j = k
    · rw [valV_pos (p := (j, v)) e]
      unfold valD
      rw [List.find?_cons_of_pos (by simpa using e)]
      exact ⟨rfl, fun d' e' => by cases e'; exact ⟨v, rfl, h1⟩⟩
    · rw [valV_neg (p := (j, v)) e]
      have := RepKV.val k h2
      unfold valD at this ⊢
      rw [List.find?_cons_of_neg (by simpa using e)]
      exact this
theorem RepKV.any : ∀ {kvs : List (Key × D)} {vs : List (Key × V)} (k : Key), RepKV C H as kvs vs → (vs.any fun kv => decide (kv.1 = k)) = (kvs.any fun kv => decide (kv.1 = k))
  | [], _, k, h => by
    have h : _ = [] := h
    subst h
    rfl
  | (j, d) :: kvs, _, k, h => by
    obtain ⟨v, r, rfl, h1, h2⟩ := h
    rw [List.any_cons, List.any_cons, RepKV.any k h2]
theorem RepKV.mapPut {d : D} {v : V} (k : Key) (hr : Rep C H as d v) : ∀ {kvs : List (Key × D)} {vs : List (Key × V)}, RepKV C H as kvs vs → RepKV C H as (kvs.map fun kv => if kv.1 = k then (kv.1, d) else kv) (vs.map fun kv => if kv.1 = k then (kv.1, v) else kv)
  | [], _, h => by
    have h : _ = [] := h
    subst h
    rfl
  | (j, d') :: kvs, _, h => by
    obtain ⟨v', r, rfl, h1, h2⟩ := h
    rw [List.map_cons, List.map_cons]
    by_cases e : j = k
    · simp only [if_pos e]
      exact ⟨v, _, rfl, hr, RepKV.mapPut k hr h2⟩
    · simp only [if_neg e]
      exact ⟨v', _, rfl, h1, RepKV.mapPut k hr h2⟩
theorem RepKV.snoc {d : D} {v : V} (k : Key) (hr : Rep C H as d v) : ∀ {kvs : List (Key × D)} {vs : List (Key × V)}, RepKV C H as kvs vs → RepKV C H as (kvs ++ [(k, d)]) (vs ++ [(k, v)])
  | [], _, h => by
    have h : _ = [] := h
    subst h
    exact ⟨v, [], rfl, hr, rfl⟩
  | (j, d') :: kvs, _, h => by
    obtain ⟨v', r, rfl, h1, h2⟩ := h
    exact ⟨v', r ++ [(k, v)], rfl, h1, RepKV.snoc k hr h2⟩
theorem RepKV.put {d : D} {v : V} (k : Key) (hr : Rep C H as d v) {kvs : List (Key × D)} {vs : List (Key × V)} (h : RepKV C H as kvs vs) : RepKV C H as (putD kvs k d) (putK vs k v) := by
  unfold putD putK
  rw [h.any k]
  split
  · exact h.mapPut k hr
  · exact h.snoc k hr
theorem RepKV.length : ∀ {kvs : List (Key × D)} {vs : List (Key × V)}, RepKV C H as kvs vs → kvs.length = vs.length
  | [], _, h => by
    have h : _ = [] := h
    subst h
    rfl
  | (j, d) :: kvs, _, h => by
    obtain ⟨v, r, rfl, h1, h2⟩ := h
    simp [RepKV.length h2]
theorem RepKV.keys : ∀ {kvs : List (Key × D)} {vs : List (Key × V)}, RepKV C H as kvs vs → Reps C H as (kvs.map fun kv => keyD kv.1) (vs.map fun kv => kV kv.1)
  | [], _, h => by
    have h : _ = [] := h
    subst h
    rfl
  | (j, d) :: kvs, _, h => by
    obtain ⟨v, r, rfl, h1, h2⟩ := h
    exact ⟨kV j, _, rfl, rep_keyD j, RepKV.keys h2⟩
end
section
variable {C : Cy} {H0 : Hb} {H : Hp} {as : List Addr} {st st' : Sto}
theorem WR.dk (w : WR C H0 as st H) {n : Nat} {kvs : List (Key × D)} (h : st[n]? = some (.dK kvs)) : ∃ a vs, as[n]? = some a ∧ H0.h a = none ∧ H a = some (.dK vs) ∧ RepKV C H0 as kvs vs := by
  have hl : n < as.length := by rw [w.len]; exact (List.getElem?_eq_some_iff.mp h).1
  rcases w.own n _ _ (List.getElem?_eq_getElem hl) h with z | ⟨z, ho, h1, vs, rfl, h2⟩
  · cases z
  · exact ⟨as[n], vs, List.getElem?_eq_getElem hl, z, h1, h2⟩
end
def lookK (d : D) (st : Sto) : Option (List (Key × D)) := match d with
  | .loc n => match st[n]? with
    | some (.dK kvs) => some kvs
    | _ => none
  | _ => none
theorem lookK_ok {C : Cy} {H0 : Hb} {H : Hp} {as : List Addr} {st : Sto} {d : D} {x : V} {kvs : List (Key × D)} (w : WR C H0 as st H) (r : Rep C H0 as d x) (h : lookK d st = some kvs) : ∃ n a vs, d = .loc n ∧ st[n]? = some (.dK kvs) ∧ as[n]? = some a ∧ x = .ref a ∧ H0.h a = none ∧ H a = some (.dK vs) ∧ RepKV C H0 as kvs vs := by
  cases d with
  | loc n =>
    unfold lookK at h
    dsimp only at h
    split at h
    · rename_i he
      cases h
      obtain ⟨a, vs, h1, h2, h3, h4⟩ := w.dk he
      obtain ⟨a', ha', e⟩ := r
      rw [h1] at ha'
      cases ha'
      exact ⟨n, a, vs, rfl, he, h1, e, h2, h3, h4⟩
    · cases h
  | _ => cases h
/-- to be read: a dict of the store, or one that a loop goes through -/
def lookR (d : D) (st : Sto) : Option (List (Key × D)) := match d with
  | .fdk _ ks ds => some (ks.zip ds)
  | d => lookK d st
theorem RepKV.zip {C : Cy} {H : Hb} {as : List Addr} : ∀ {ks : List Key} {ds : List D} {vs : List V}, Reps C H as ds vs → RepKV C H as (ks.zip ds) (ks.zip vs)
  | [], _, _, _ => rfl
  | k :: ks, [], vs, h => by
    have h : vs = [] := h
    subst h
    rfl
  | k :: ks, d :: ds, vs, h => by
    obtain ⟨v, r, rfl, h1, h2⟩ := h
    exact ⟨v, _, rfl, h1, RepKV.zip h2⟩
theorem lookR_ok {C : Cy} {H0 : Hb} {H : Hp} {as : List Addr} {st : Sto} {d : D} {x : V} {kvs : List (Key × D)} (w : WR C H0 as st H) (r : Rep C H0 as d x) (h : lookR d st = some kvs) : ∃ a vs, x = .ref a ∧ Rd H a (.dK vs) ∧ RepKV C H0 as kvs vs := by
  have go : lookK d st = some kvs → ∃ a vs, x = .ref a ∧ Rd H a (.dK vs) ∧ RepKV C H0 as kvs vs := fun h => by
    obtain ⟨n, a, vs, _, _, _, e, _, h1, h2⟩ := lookK_ok w r h
    exact ⟨a, vs, e, .inl h1, h2⟩
  cases d with
  | fdk n ks ds =>
    cases h
    obtain ⟨a, ob, vs, ha, e, hs, hl, hr⟩ := r
    exact ⟨a, _, e, .inr ⟨ob, w.ex _ _ hs⟩, RepKV.zip hr⟩
  | _ => exact go h
/-- d[k] -/
def fGet (a b : D) (st : Sto) : Option (D × Sto) := (lookR a st).bind fun kvs => (keyOf b).bind fun k => (valD kvs k).map fun d => (d, st)
def fInK (neg : Bool) (a b : D) (st : Sto) : Option (D × Sto) := (lookR b st).bind fun kvs => (keyOf a).map fun k => (.bl (if neg then !(valD kvs k).isSome else (valD kvs k).isSome), st)
def fSetK (a b c : D) (st : Sto) : Option Sto := match a with
  | .loc n => (lookK a st).bind fun kvs => (keyOf b).bind fun k => if kvs.length < sizeLine then some (st.set n (.dK (putD kvs k c))) else none
  | _ => none
def mDNew : ME := fun _ st => some (.loc st.length, st ++ [.dK []])
def fLenK (ds : List D) (st : Sto) : Option (D × Sto) := match ds with
  | [d] => (lookR d st).map fun kvs => (.int kvs.length, st)
  | _ => none
def fListK (mu : Bool) (ds : List D) (st : Sto) : Option (D × Sto) := match ds with
  | [d] => (lookR d st).map fun kvs => alloc mu (kvs.map fun kv => keyD kv.1) st
  | _ => none
section
variable {C : Cy} {X : Cx}
def rGetK : R2 := fun x y H Q => ∃ a v, x = .ref a ∧ DGet H a y (some v) ∧ Q v H
theorem ok_getK : Ok2 C rGetK fGet := by
  intro H0 as st H dx dy x y d st' Q w rx ry hf k
  unfold fGet at hf
  obtain ⟨kvs, h1, hf⟩ := Option.bind_eq_some_iff.mp hf
  obtain ⟨key, h2, hf⟩ := Option.bind_eq_some_iff.mp hf
  obtain ⟨d', h3, e⟩ := Option.map_eq_some_iff.mp hf
  cases e
  obtain ⟨a, vs, rfl, hH, hr⟩ := lookR_ok w rx h1
  cases rep_key h2 ry
  obtain ⟨v, hv, rv⟩ := (hr.val key).2 _ h3
  exact ⟨a, v, rfl, by rw [← hv]; exact .inl ⟨vs, key, hH, rfl, rfl⟩, k.val w rv⟩
def rInK (neg : Bool) : R2 := fun y x H Q => ∃ a o, x = .ref a ∧ DGet H a y o ∧ Q (.bl (if neg then !o.isSome else o.isSome)) H
theorem op_inK (hu : X.A.units + 64 < cLine) : OpR X (compareOp .In) (rInK false) := by
  rintro pins s σ H y x u v Q I ry rx ⟨a, o, rfl, g, q⟩
  obtain rfl : v = Value.ref a := rx
  exact d_in (by omega) I g ry fun s' I' => ⟨.bl o.isSome, H, I', rfl, q⟩
theorem op_niK (hu : X.A.units + 64 < cLine) : OpR X (compareOp .NotIn) (rInK true) := by
  rintro pins s σ H y x u v Q I ry rx ⟨a, o, rfl, g, q⟩
  obtain rfl : v = Value.ref a := rx
  exact d_notIn (by omega) I g ry fun s' I' => ⟨.bl (!o.isSome), H, I', rfl, q⟩
theorem ok_inK {neg : Bool} : Ok2 C (rInK neg) (fInK neg) := by
  intro H0 as st H dx dy x y d st' Q w rx ry hf k
  unfold fInK at hf
  obtain ⟨kvs, h1, hf⟩ := Option.bind_eq_some_iff.mp hf
  obtain ⟨key, h2, e⟩ := Option.map_eq_some_iff.mp hf
  cases e
  obtain ⟨a, vs, rfl, hH, hr⟩ := lookR_ok w ry h1
  cases rep_key h2 rx
  refine ⟨a, _, rfl, .inl ⟨vs, key, hH, rfl, rfl⟩, ?_⟩
  rw [(hr.val key).1]
  exact k.val w rfl
def rSetK : TSet := fun o i v H Q => ∃ a H', o = .ref a ∧ DPut H a i v H' ∧ Q H'
theorem set_K (hu : X.A.units + 64 < cLine) : PSet X rSetK := by
  rintro pins s σ H o i v ov iv u Q I ro ri rv ⟨a, H', rfl, g, q⟩
  obtain rfl : ov = Value.ref a := ro
  exact d_setItem (by omega) I g ri rv fun s' I' => ⟨H', I', q⟩
theorem ok_setK : OkS C rSetK fSetK := by
  intro H0 as st H a b c x y z st' Q w rx ry rz hf k
  unfold fSetK at hf
  split at hf
  · obtain ⟨kvs, h1, hf⟩ := Option.bind_eq_some_iff.mp hf
    obtain ⟨key, h2, hf⟩ := Option.bind_eq_some_iff.mp hf
    split at hf
    · rename_i hl
      cases hf
      obtain ⟨n, a, vs, e, he, ha, rfl, hn, hH, hr⟩ := lookK_ok w rx h1
      cases e
      cases rep_key h2 ry
      exact ⟨a, _, rfl, DPut.k hH (by rw [← hr.length]; exact hl), k H0 as _ Le.refl (w.put ha hn ⟨_, rfl, hr.put key rz⟩)⟩
    · cases hf
  · cases hf
theorem em_dnew {σ : L2.St} {H : Hp} {Q : VK} : eM C mDNew σ H Q → tDNewK σ H Q := by
  rintro ⟨H0, as, en, st, d, st', e, w, hm, k⟩
  cases hm
  intro p hp
  obtain ⟨w', l⟩ := w.push (o := .dK []) hp ⟨[], rfl, rfl⟩
  exact k (.ref p) _ _ _ l w' ⟨p, by rw [← w.len]; simp, rfl⟩
theorem call_lenK : CallR X (.builtin "len") (fun xs H Q => ∃ a kvs, xs = [.ref a] ∧ Rd H a (.dK kvs) ∧ Q (.int (kvs.length : Nat)) H) := by
  rintro pins s σ H vs us Q I r ⟨a, kvs, rfl, h, q⟩
  rw [Vals.ref1 r]
  exact d_len I h fun t s' I' => ⟨.int (kvs.length : Nat), H, I', ⟨t, rfl⟩, q⟩
theorem ok_lenK : OkC C (fun xs H Q => ∃ a kvs, xs = [.ref a] ∧ Rd H a (.dK kvs) ∧ Q (.int (kvs.length : Nat)) H) fLenK := by
  intro H0 as st H ds vs d st' Q w r hf k
  unfold fLenK at hf
  split at hf
  · obtain ⟨kvs, h1, e⟩ := Option.map_eq_some_iff.mp hf
    cases e
    obtain ⟨v, rfl, rv⟩ := reps1 r
    obtain ⟨a, vs, rfl, hH, hr⟩ := lookR_ok w rv h1
    refine ⟨a, vs, rfl, hH, ?_⟩
    rw [← hr.length]
    exact k.val w rfl
  · cases hf
theorem ok_listK {mu : Bool} : OkC C (fun xs H Q => ∃ (a : Addr) (kvs : List (Key × V)), xs = [.ref a] ∧ Rd H a (.dK kvs) ∧ ∀ p, H p = none → Q (.ref p) (upd H p (.lst (kvs.map fun kv => kV kv.1)))) (fListK mu) := by
  intro H0 as st H ds vs d st' Q w r hf k
  unfold fListK at hf
  split at hf
  · obtain ⟨kvs, h1, e⟩ := Option.map_eq_some_iff.mp hf
    obtain ⟨v, rfl, rv⟩ := reps1 r
    obtain ⟨a, vs, rfl, hH, hr⟩ := lookR_ok w rv h1
    exact ⟨a, vs, rfl, hH, k.newA e w hr.keys⟩
  · cases hf
end
section
variable {X : Cx} {a b : Expr} {ma mb : ME} {pos : Pos}
theorem x_dget {k : Nat} (hr : Room k X.A) (ha : PE X a (eM (cyOf X) ma)) (hb : PE X b (eM (cyOf X) mb)) (hs : PlainIx b := by exact fun _ _ => rfl) : PE X (.Subscript a b pos) (eM (cyOf X) (mOp fGet ma mb)) :=
  PE.imp (pe_dget (by have := hr.units; omega) ha hb hs) fun _ _ _ h => em_op ok_getK h
theorem x_dnew : PE X (.Dict [] [] pos) (eM (cyOf X) mDNew) := PE.imp pe_dnewK fun _ _ _ => em_dnew
theorem k_inK {k : Nat} (hr : Room k X.A) : OpR X (compareOp .In) (rInK false) ∧ Ok2 (cyOf X) (rInK false) (fInK false) := ⟨op_inK hr.units, ok_inK⟩
theorem k_niK {k : Nat} (hr : Room k X.A) : OpR X (compareOp .NotIn) (rInK true) ∧ Ok2 (cyOf X) (rInK true) (fInK true) := ⟨op_niK hr.units, ok_inK⟩
theorem c_lenK : CallR X (.builtin "len") (fun xs H Q => ∃ a kvs, xs = [.ref a] ∧ Rd H a (.dK kvs) ∧ Q (.int (kvs.length : Nat)) H) ∧ OkC (cyOf X) (fun xs H Q => ∃ a kvs, xs = [.ref a] ∧ Rd H a (.dK kvs) ∧ Q (.int (kvs.length : Nat)) H) fLenK := ⟨call_lenK, ok_lenK⟩
theorem c_listK (mu : Bool) (hc : X.calm = true := by rfl) : CallR X (.type "list") (fun xs H Q => ∃ (a : Addr) (kvs : List (Key × V)), xs = [.ref a] ∧ Rd H a (.dK kvs) ∧ ∀ p, H p = none → Q (.ref p) (upd H p (.lst (kvs.map fun kv => kV kv.1)))) ∧ OkC (cyOf X) (fun xs H Q => ∃ (a : Addr) (kvs : List (Key × V)), xs = [.ref a] ∧ Rd H a (.dK kvs) ∧ ∀ p, H p = none → Q (.ref p) (upd H p (.lst (kvs.map fun kv => kV kv.1)))) (fListK mu) := ⟨call_listD hc, ok_listK⟩
theorem g_subK {k : Nat} (hr : Room k X.A) (ho : PE X a (eM (cyOf X) ma)) (hi : PE X b (eM (cyOf X) mb)) (ha : ∀ v, assign (.Subscript a b pos) X.env v = (do
      let ov ← holding [v] (eval a X.env)
      let iv ← holding [v, ov] (eval b X.env)
      standAt pos
      holding [v, ov, iv] (setItem ov iv v)
      release [v, ov, iv] []) := by intro _; rfl) : PG X (.Subscript a b pos) (gM (cyOf X) (mgSub ma mb fSetK)) := PG.imp (pg_sub ho hi (set_K hr.units) ha) fun _ _ _ _ => gm_sub ok_setK
end
end My


namespace My
open PySem PySem.Spec PyProof.Rows L2

/-! ### going through a dict -/
section
variable {X : Cx}
/-- the statement runs while the thing at d is locked, whatever lock stands there behind it -/
def tLk (t : TS) : TS := fun D σ H => ∃ d u, H d = some u ∧ Mut (some u) ∧ ∀ od, t ⟨fun σ' H' => ∃ o' u', H' d = some (.frz o' u') ∧ D.nx σ' (upd H' d u'), fun v H' => ∃ o' u', H' d = some (.frz o' u') ∧ D.rt v (upd H' d u'), fun σ' H' => ∃ o' u', H' d = some (.frz o' u') ∧ D.bk σ' (upd H' d u'), fun σ' H' => ∃ o' u', H' d = some (.frz o' u') ∧ D.ct σ' (upd H' d u')⟩ σ (upd H d (.frz od u))
def tLkE (t : TE) : TE := fun σ H Q => ∃ d u, H d = some u ∧ Mut (some u) ∧ ∀ od, t σ (upd H d (.frz od u)) fun v H' => ∃ o' u', H' d = some (.frz o' u') ∧ Q v (upd H' d u')
theorem ps_lk {st : Stmt} {t : TS} (h : PS X st t) : PS X st (tLk t) := by
  refine ⟨fun pins s σ H D I hw => ?_⟩
  obtain ⟨d, u, hd, mu, hw⟩ := hw
  obtain ⟨od, I1⟩ := I.lock hd mu
  refine thn (h.run pins s σ _ _ I1 (hw od)) fun f s1 q => ?_
  cases f with
  | next => obtain ⟨σ', H', I2, _, _, e, q⟩ := q; exact ⟨σ', _, I2.unlock e (I.nofrz hd mu), q⟩
  | brk => obtain ⟨σ', H', I2, _, _, e, q⟩ := q; exact ⟨σ', _, I2.unlock e (I.nofrz hd mu), q⟩
  | cont => obtain ⟨σ', H', I2, _, _, e, q⟩ := q; exact ⟨σ', _, I2.unlock e (I.nofrz hd mu), q⟩
  | ret v => obtain ⟨x, σ', H', I2, r, _, _, e, q⟩ := q; exact ⟨x, σ', _, I2.unlock e (I.nofrz hd mu), r, q⟩
theorem pe_lk {e : Expr} {t : TE} (h : PE X e t) : PE X e (tLkE t) := by
  refine ⟨fun pins s σ H Q I hw => ?_⟩
  obtain ⟨d, u, hd, mu, hw⟩ := hw
  obtain ⟨od, I1⟩ := I.lock hd mu
  refine thn (h.run pins s σ _ _ I1 (hw od)) fun v s1 ⟨x, H1, I2, r, _, _, e2, q⟩ => ?_
  exact ⟨x, _, I2.unlock e2 (I.nofrz hd mu), r, q⟩
end

/-! ### the keys -/
def miKeys (m : ME) : MI := fun en st => (m en st).bind fun p => match p.1 with
  | .fdk _ ks _ => some (⟨ks.map keyD, none⟩, p.2)
  | _ => none
section
variable {C : Cy}
theorem itOk_keys {a : Addr} {ob : Obj} {ks : List Key} {vs : List V} {H0 : Hb} {as : List Addr} (hl : ks.length = vs.length) (q0 : H0.h a = some (.frz ob (.dK (ks.zip vs)))) : ItOk C (Itk a ob (ks.zip vs)) ⟨ks.map keyD, none⟩ H0 as := by
  intro H1 as1 st H i l w _
  have q : H a = some (.frz ob (.dK (ks.zip vs))) := w.ex _ _ (l.same _ _ q0)
  have hz : (ks.zip vs).length = ks.length := by rw [List.length_zip]; omega
  refine ⟨fun d hd => ?_, fun hi => ⟨q, by rw [hz]; simpa using hi⟩⟩
  rw [List.getElem?_map] at hd
  obtain ⟨k, hk, rfl⟩ := Option.map_eq_some_iff.mp hd
  have hlt := (List.getElem?_eq_some_iff.mp hk).1
  refine ⟨⟨q, by rw [hz]; exact hlt⟩, fun x H' y => ?_⟩
  obtain ⟨rfl, k', v, e, rfl⟩ := y
  have e2 : k' = k := by
    obtain ⟨h1, h2⟩ := List.getElem?_eq_some_iff.mp e
    obtain ⟨h3, h4⟩ := List.getElem?_eq_some_iff.mp hk
    rw [List.getElem_zip] at h2
    cases h2
    exact h4
  subst e2
  exact ⟨H1, as1, Le.refl, w, rep_keyD k'⟩
theorem im_keys {σ : L2.St} {H : Hp} {R : It → Hp → Prop} {m : ME} : iM C (miKeys m) σ H R → iKeys (eM C m) σ H R := by
  rintro ⟨H0, as, en, st, s, st', e, w, hm, k⟩
  unfold miKeys at hm
  obtain ⟨⟨d, s1⟩, ha, hm⟩ := Option.bind_eq_some_iff.mp hm
  dsimp only at hm
  split at hm
  · cases hm
    refine ⟨H0, as, en, st, _, _, e, w, ha, fun x H1 as1 H1' l1 w1 r1 => ?_⟩
    obtain ⟨a, ob, vs, ha', rfl, hs, hl, hr⟩ := r1
    have hl2 := hl.trans hr.length
    exact ⟨a, ob, rfl, .inl ⟨_, w1.ex _ _ hs, k _ H1 as1 H1' l1 w1 fun g => itOk_keys (H0 := ⟨H1.h, g⟩) hl2 hs⟩⟩
  · cases hm
end

/-! ### behind the lock -/
mutual
def nof : D → Bool
  | .fdk _ _ _ => false
  | .tup ds => nofs ds
  | .lst ds => nofs ds
  | .fro ds => nofs ds
  | _ => true
def nofs : List D → Bool
  | [] => true
  | d :: ds => nof d && nofs ds
end
def nofO : SO → Bool
  | .dead => true
  | .lst ds => nofs ds
  | .dK kvs => nofs (kvs.map (·.2))
  | .dT kvs => nofs (kvs.map (·.2))
def erase (h : Hp) (a : Addr) : Hp := fun x => if x = a then none else h x
theorem erase_ne {h : Hp} {a x : Addr} (e : x ≠ a) : erase h a x = h x := if_neg e
theorem erase_same {h : Hp} {a : Addr} : erase h a a = none := if_pos rfl
section
variable {C : Cy} {H : Hb} {as : List Addr} {a : Addr} {ob : Obj} {us : List (Key × V)}
theorem rd_er {u : HO} {x : Addr} (hf : H.h a = some (.frz ob (.dK us))) (hu : ∀ kvs, u ≠ .dK kvs) (hu2 : ∀ o v, u ≠ .frz o v) (r : Rd H.h x u) : Rd (erase H.h a) x u := by
  have ne : x ≠ a := fun e => by
    subst e
    rcases r with r | ⟨o, r⟩
    · rw [hf] at r; cases r; exact hu2 _ _ rfl
    · rw [hf] at r; cases r; exact hu _ rfl
  rcases r with r | ⟨o, r⟩
  · exact .inl (by rw [erase_ne ne]; exact r)
  · exact .inr ⟨o, by rw [erase_ne ne]; exact r⟩
mutual
theorem Rep.er (hf : H.h a = some (.frz ob (.dK us))) : ∀ {d : D} {v : V}, nof d = true → Rep C H as d v → Rep C ⟨erase H.h a, H.g⟩ as d v
  | .non, _, _, h => h
  | .bl _, _, _, h => h
  | .int _, _, _, h => h
  | .str _, _, _, h => h
  | .ty _, _, _, h => h
  | .adr _, _, _, h => h
  | .tup ds, _, c, ⟨b, vs, e, hs, hr⟩ => ⟨b, vs, e, hs.imp (rd_er hf (fun _ z => nomatch z) (fun _ _ z => nomatch z)) id, Reps.er hf (by unfold nof at c; exact c) hr⟩
  | .lst ds, _, c, ⟨b, vs, e, hs, hr⟩ => ⟨b, vs, e, by
      have ne : b ≠ a := fun e => by subst e; rw [hf] at hs; cases hs
      show erase H.h a b = _
      rw [erase_ne ne]
      exact hs, Reps.er hf (by unfold nof at c; exact c) hr⟩
  | .fro ds, _, c, ⟨b, vs, e, hs, hr⟩ => ⟨b, vs, e, hs.imp (rd_er hf (fun _ z => nomatch z) (fun _ _ z => nomatch z)) id, Reps.er hf (by unfold nof at c; exact c) hr⟩
  | .loc m, _, _, h => h
  | .fdk _ _ _, _, c, _ => by cases c
  | .set _, _, _, ⟨b, S, n, e, hs, hr⟩ => ⟨b, S, n, e, by
      have ne : b ≠ a := fun e => by subst e; rw [hf] at hs; cases hs
      show erase H.h a b = _
      rw [erase_ne ne]
      exact hs, hr⟩
  | .fn _, _, _, h => h
theorem Reps.er (hf : H.h a = some (.frz ob (.dK us))) : ∀ {ds : List D} {vs : List V}, nofs ds = true → Reps C H as ds vs → Reps C ⟨erase H.h a, H.g⟩ as ds vs
  | [], _, _, h => h
  | d :: ds, _, c, ⟨v, r, e, h1, h2⟩ => by
    unfold nofs at c
    rw [Bool.and_eq_true] at c
    exact ⟨v, r, e, Rep.er hf c.1 h1, Reps.er hf c.2 h2⟩
end
theorem RepKV.er {κ : Type} (hf : H.h a = some (.frz ob (.dK us))) : ∀ {ds : List (κ × D)} {vs : List (κ × V)}, nofs (ds.map (·.2)) = true → RepKV C H as ds vs → RepKV C ⟨erase H.h a, H.g⟩ as ds vs
  | [], _, _, h => h
  | (k, d) :: ds, _, c, ⟨v, r, e, h1, h2⟩ => by
    rw [List.map_cons] at c
    unfold nofs at c
    rw [Bool.and_eq_true] at c
    exact ⟨v, r, e, h1.er hf c.1, RepKV.er hf c.2 h2⟩
theorem RepO.er (hf : H.h a = some (.frz ob (.dK us))) : ∀ {o : SO} {u : HO}, nofO o = true → RepO C H as o u → RepO C ⟨erase H.h a, H.g⟩ as o u
  | .dead, _, _, h => h
  | .lst _, _, c, ⟨vs, e, h⟩ => ⟨vs, e, h.er hf c⟩
  | .dK _, _, c, ⟨vs, e, h⟩ => ⟨vs, e, h.er hf c⟩
  | .dT _, _, c, ⟨vs, e, h⟩ => ⟨vs, e, h.er hf c⟩
end
section
variable {C : Cy} {H0 : Hb} {H : Hp} {as : List Addr} {st : Sto}
/-- into the lock -/
theorem WR.lkIn (w : WR C H0 as st H) {n : Nat} {a : Addr} {us : List (Key × V)} {ob : Obj} (ha : as[n]? = some a) (hn : H0.h a = none) : WR C ⟨upd H0.h a (.frz ob (.dK us)), H0.g⟩ as (st.set n .dead) (upd H a (.frz ob (.dK us))) ∧ Le H0 as ⟨upd H0.h a (.frz ob (.dK us)), H0.g⟩ as := by
  have l : Le H0 as ⟨upd H0.h a (.frz ob (.dK us)), H0.g⟩ as := ⟨fun b x e => (show upd H0.h a _ b = some x by rw [upd_ne (ne_of_none e hn)]; exact e), rfl, List.prefix_rfl⟩
  have hm : a ∈ as := List.mem_of_getElem? ha
  refine ⟨⟨fun b x e => ?_, w.nd, by rw [List.length_set, w.len], fun b hb => ?_, fun m b x hb hx => ?_, fun q hq => ?_⟩, l⟩
  · have e : upd H0.h a _ b = some x := e
    by_cases hb : b = a
    · subst hb
      rw [upd_same] at e ⊢
      exact e
    · rw [upd_ne hb] at e ⊢
      exact w.ex b x e
  · by_cases e : b = a
    · subst e
      exact ⟨_, upd_same⟩
    · rw [upd_ne e]
      exact w.liv b hb
  · by_cases e : m = n
    · subst e
      rw [List.getElem?_set_self (by have := (List.getElem?_eq_some_iff.mp ha).1; rw [w.len] at this; exact this)] at hx
      cases hx
      exact .inl rfl
    · rw [List.getElem?_set_ne (Ne.symm e)] at hx
      have hba : b ≠ a := fun z => by
        subst z
        obtain ⟨h1, e1⟩ := List.getElem?_eq_some_iff.mp ha
        obtain ⟨h2, e2⟩ := List.getElem?_eq_some_iff.mp hb
        exact e ((List.getElem_inj w.nd).mp (e2.trans e1.symm))
      rcases w.own m b x hb hx with z | ⟨z, u, h1, h2⟩
      · exact .inl z
      · exact .inr ⟨(show upd H0.h a _ b = none by rw [upd_ne hba]; exact z), u, by rw [upd_ne hba]; exact h1, h2.mono l⟩
  · obtain ⟨h1, h2, h3⟩ := w.gho q hq
    have hqa : q.1 ≠ a := fun z => h2 (by rw [z]; exact hm)
    exact ⟨(show upd H0.h a _ q.1 = none by rw [upd_ne hqa]; exact h1), h2, by rw [upd_ne hqa]; exact h3⟩
/-- out of it -/
theorem WR.lkOut {H1 : Hb} {as1 : List Addr} {st1 : Sto} {H' : Hp} {n : Nat} {a : Addr} {us : List (Key × V)} {kvs : List (Key × D)} {ob : Obj} (l1 : Le ⟨upd H0.h a (.frz ob (.dK us)), H0.g⟩ as H1 as1) (w1 : WR C H1 as1 st1 H') (ha : as[n]? = some a) (hn : H0.h a = none) (hd : st1[n]? = some .dead) (hc : st1.all nofO = true) (r : RepKV C H0 as kvs us) :
    WR C ⟨erase H1.h a, H1.g⟩ as1 (st1.set n (.dK kvs)) (upd H' a (.dK us)) ∧ Le H0 as ⟨erase H1.h a, H1.g⟩ as1 ∧ H1.h a = some (.frz ob (.dK us)) ∧ H' a = some (.frz ob (.dK us)) := by
  have hf : H1.h a = some (.frz ob (.dK us)) := l1.same _ _ (show upd H0.h a _ a = _ from upd_same)
  have hf' := w1.ex _ _ hf
  have ha1 : as1[n]? = some a := pre_get l1.pre ha
  have l : Le H0 as ⟨erase H1.h a, H1.g⟩ as1 := ⟨fun b x e => (show erase H1.h a b = some x by
    have ne := ne_of_none e hn
    rw [erase_ne ne]
    exact l1.same _ _ (show upd H0.h a _ b = some x by rw [upd_ne ne]; exact e)), l1.gh, l1.pre⟩
  refine ⟨⟨fun b x e => ?_, w1.nd, by rw [List.length_set, w1.len], fun b hb => ?_, fun m b x hb hx => ?_, fun q hq => ?_⟩, l, hf, hf'⟩
  · have e : erase H1.h a b = some x := e
    have ne : b ≠ a := fun z => by subst z; rw [erase_same] at e; cases e
    rw [erase_ne ne] at e
    rw [upd_ne ne]
    exact w1.ex b x e
  · by_cases e : b = a
    · subst e
      exact ⟨_, upd_same⟩
    · rw [upd_ne e]
      exact w1.liv b hb
  · by_cases e : m = n
    · subst e
      rw [ha1] at hb
      cases hb
      rw [List.getElem?_set_self (List.getElem?_eq_some_iff.mp hd).1] at hx
      cases hx
      exact .inr ⟨erase_same, _, upd_same, us, rfl, r.mono l⟩
    · rw [List.getElem?_set_ne (Ne.symm e)] at hx
      have hba : b ≠ a := fun z => by
        subst z
        obtain ⟨h1, e1⟩ := List.getElem?_eq_some_iff.mp ha1
        obtain ⟨h2, e2⟩ := List.getElem?_eq_some_iff.mp hb
        exact e ((List.getElem_inj w1.nd).mp (e2.trans e1.symm))
      rcases w1.own m b x hb hx with z | ⟨z, u, h1, h2⟩
      · exact .inl z
      · exact .inr ⟨(show erase H1.h a b = none by rw [erase_ne hba]; exact z), u, by rw [upd_ne hba]; exact h1, h2.er hf (List.all_eq_true.mp hc x (List.mem_of_getElem? hx))⟩
  · obtain ⟨h1, h2, h3⟩ := w1.gho q hq
    have hqa : q.1 ≠ a := fun z => h2 (by rw [z]; exact List.mem_of_getElem? ha1)
    exact ⟨(show erase H1.h a q.1 = none by rw [erase_ne hqa]; exact h1), h2, by rw [upd_ne hqa]; exact h3⟩
end
open Classical in
/-- the dict of slot i, while an expression goes through it -/
noncomputable def mLkE (i : Nat) (m : ME) : ME := fun en st => match en[i]? with
  | some (some (.loc n)) => match st[n]? with
    | some (.dK kvs) => (m (en.set i (some (.fdk n (kvs.map (·.1)) (kvs.map (·.2))))) (st.set n .dead)).bind fun p => if nof p.1 = true ∧ p.2.all nofO = true ∧ p.2[n]? = some .dead then some (p.1, p.2.set n (.dK kvs)) else none
    | _ => none
  | _ => none
theorem RepKV.vals {C : Cy} {H : Hb} {as : List Addr} : ∀ {kvs : List (Key × D)} {vs : List (Key × V)}, RepKV C H as kvs vs → Reps C H as (kvs.map (·.2)) (vs.map (·.2)) ∧ kvs.map (·.1) = vs.map (·.1)
  | [], _, h => by
    have h : _ = [] := h
    subst h
    exact ⟨rfl, rfl⟩
  | (j, d) :: kvs, _, h => by
    obtain ⟨v, r, rfl, h1, h2⟩ := h
    obtain ⟨h3, h4⟩ := RepKV.vals h2
    exact ⟨⟨v, _, rfl, h1, h3⟩, by rw [List.map_cons, List.map_cons, h4]⟩
theorem zip_map {α β : Type} : ∀ l : List (α × β), (l.map (·.1)).zip (l.map (·.2)) = l
  | [] => rfl
  | (a, b) :: l => by
    rw [List.map_cons, List.map_cons, List.zip_cons_cons, zip_map l]
section
variable {C : Cy} {σ : L2.St} {H : Hp} {Q : VK}
theorem em_lk {i : Nat} {m : ME} : eM C (mLkE i m) σ H Q → tLkE (eM C m) σ H Q := by
  rintro ⟨H0, as, en, st, d, st', e, w, hm, k⟩
  unfold mLkE at hm
  split at hm
  · rename_i n hi
    split at hm
    · rename_i kvs hs
      obtain ⟨⟨d1, s1⟩, h1, hm⟩ := Option.bind_eq_some_iff.mp hm
      dsimp only at hm
      split at hm
      · rename_i hc
        cases hm
        obtain ⟨a, vs, ha, hn, hH, hr⟩ := w.dk hs
        obtain ⟨hv, hk⟩ := hr.vals
        refine ⟨a, _, hH, trivial, fun od => ?_⟩
        obtain ⟨w1, l1⟩ := w.lkIn (us := vs) (ob := od) ha hn
        obtain ⟨v0, hv0, a', ha', e0⟩ := e.at_ i _ hi
        rw [ha] at ha'
        cases ha'
        subst e0
        have en1 : EnR C ⟨upd H0.h a (.frz od (.dK vs)), H0.g⟩ as (en.set i (some (.fdk n (kvs.map (·.1)) (kvs.map (·.2))))) σ := by
          refine ⟨by rw [List.length_set, e.len], fun j dj hj => ?_⟩
          by_cases ej : j = i
          · subst ej
            rw [List.getElem?_set_self (by have := (List.getElem?_eq_some_iff.mp hi).1; exact this)] at hj
            cases hj
            exact ⟨_, hv0, a, od, vs.map (·.2), ha, rfl, (show upd H0.h a _ a = _ by rw [upd_same, hk, zip_map]), by simp, hv.mono l1⟩
          · rw [List.getElem?_set_ne (Ne.symm ej)] at hj
            obtain ⟨v, hv, rv⟩ := e.at_ j _ hj
            exact ⟨v, hv, rv.mono l1⟩
        refine ⟨_, as, _, _, _, _, en1, w1, h1, fun v H2 as2 H2' l2 w2 r2 => ?_⟩
        obtain ⟨w3, l3, hf, hf'⟩ := WR.lkOut l2 w2 ha hn hc.2.2 hc.2.1 hr
        exact ⟨od, _, hf', k v _ as2 _ l3 w3 (r2.er hf hc.1)⟩
      · cases hm
    · cases hm
  · cases hm
end
open Classical in
/-- .. while a statement goes through it -/
noncomputable def mLkS (i : Nat) (m : MS) : MS := fun en st => match en[i]? with
  | some (some (.loc n)) => match st[n]? with
    | some (.dK kvs) => (m (en.set i (some (.fdk n (kvs.map (·.1)) (kvs.map (·.2))))) (st.set n .dead)).bind fun p => if p.2.all nofO = true ∧ p.2[n]? = some .dead then match p.1 with
      | .nx e => if (∃ ks ds, e[i]? = some (some (.fdk n ks ds))) ∧ ∀ j d, j ≠ i → e[j]? = some (some d) → nof d = true then some (.nx (e.set i (some (.loc n))), p.2.set n (.dK kvs)) else none
      | .rt d => if nof d = true then some (.rt d, p.2.set n (.dK kvs)) else none
      | _ => none
      else none
    | _ => none
  | _ => none
section
variable {C : Cy} {σ : L2.St} {H : Hp}
theorem sm_lk {i : Nat} {m : MS} {N : Ends} : sM C (mLkS i m) N σ H → tLk (sM C m) N σ H := by
  rintro ⟨H0, as, en, st, o, st', e, w, hm, k⟩
  unfold mLkS at hm
  split at hm
  · rename_i n hi
    split at hm
    · rename_i kvs hs
      obtain ⟨⟨o1, s1⟩, h1, hm⟩ := Option.bind_eq_some_iff.mp hm
      dsimp only at hm
      split at hm
      · rename_i hc
        obtain ⟨a, vs, ha, hn, hH, hr⟩ := w.dk hs
        obtain ⟨hv, hk⟩ := hr.vals
        refine ⟨a, _, hH, trivial, fun od => ?_⟩
        obtain ⟨w1, l1⟩ := w.lkIn (us := vs) (ob := od) ha hn
        obtain ⟨v0, hv0, a', ha', e0⟩ := e.at_ i _ hi
        rw [ha] at ha'
        cases ha'
        subst e0
        have en1 : EnR C ⟨upd H0.h a (.frz od (.dK vs)), H0.g⟩ as (en.set i (some (.fdk n (kvs.map (·.1)) (kvs.map (·.2))))) σ := by
          refine ⟨by rw [List.length_set, e.len], fun j dj hj => ?_⟩
          by_cases ej : j = i
          · subst ej
            rw [List.getElem?_set_self (by have := (List.getElem?_eq_some_iff.mp hi).1; exact this)] at hj
            cases hj
            exact ⟨_, hv0, a, od, vs.map (·.2), ha, rfl, (show upd H0.h a _ a = _ by rw [upd_same, hk, zip_map]), by simp, hv.mono l1⟩
          · rw [List.getElem?_set_ne (Ne.symm ej)] at hj
            obtain ⟨v, hv, rv⟩ := e.at_ j _ hj
            exact ⟨v, hv, rv.mono l1⟩
        refine ⟨_, as, _, _, o1, _, en1, w1, h1, ?_⟩
        cases o1 with
        | nx e1 =>
          dsimp only at hm
          split at hm
          · rename_i hz
            cases hm
            obtain ⟨⟨ks, ds, hz1⟩, hz2⟩ := hz
            intro σ1 H2 as2 H2' l2 w2 e2
            obtain ⟨w3, l3, hf, hf'⟩ := WR.lkOut l2 w2 ha hn hc.2 hc.1 hr
            refine ⟨od, _, hf', k σ1 _ as2 _ l3 w3 ⟨by rw [List.length_set, e2.len], fun j dj hj => ?_⟩⟩
            by_cases ej : j = i
            · subst ej
              rw [List.getElem?_set_self (by have := (List.getElem?_eq_some_iff.mp hz1).1; exact this)] at hj
              cases hj
              obtain ⟨v, hv, b, _, _, hb, eb, _⟩ := e2.at_ j _ hz1
              exact ⟨v, hv, b, hb, eb⟩
            · rw [List.getElem?_set_ne (Ne.symm ej)] at hj
              obtain ⟨v, hv, rv⟩ := e2.at_ j _ hj
              exact ⟨v, hv, rv.er hf (hz2 j _ ej hj)⟩
          · cases hm
        | rt d1 =>
          dsimp only at hm
          split at hm
          · rename_i hz
            cases hm
            intro v H2 as2 H2' l2 w2 r2
            obtain ⟨w3, l3, hf, hf'⟩ := WR.lkOut l2 w2 ha hn hc.2 hc.1 hr
            exact ⟨od, _, hf', k v _ as2 _ l3 w3 (r2.er hf hz)⟩
          · cases hm
        | bk _ => cases hm
        | ct _ => cases hm
      · cases hm
    · cases hm
  · cases hm
end
section
variable {X : Cx} {tg e : Expr} {m : ME}
theorem i_keys (ha : PE X e (eM (cyOf X) m)) : PI X tg e (iM (cyOf X) (miKeys m)) := PI.imp (pi_keys ha) fun _ _ _ => im_keys
theorem x_lk (i : Nat) (h : PE X e (eM (cyOf X) m)) : PE X e (eM (cyOf X) (mLkE i m)) := PE.imp (pe_lk h) fun _ _ _ => em_lk
theorem z_lk {st : Stmt} {ms : MS} (i : Nat) (h : PS X st (sM (cyOf X) ms)) : PS X st (sM (cyOf X) (mLkS i ms)) := PS.imp (ps_lk h) fun _ _ _ => sm_lk
end
end My


namespace My
open PySem PySem.Spec PyProof.Rows L2

/-! ### evaluating -/
theorem settle_self (d : D) {st st' : Sto} (h : st'.length ≤ st.length) : settle st d st' = (d, st') := by
  unfold settle
  rw [if_pos h]
theorem settle_same (d : D) (st : Sto) : settle st d st = (d, st) := settle_self d (Nat.le_refl _)
theorem mV_at {i : Nat} {en : En} {st : Sto} {d : D} (h : en[i]? = some (some d)) : mV i en st = some (d, st) := by
  unfold mV
  rw [h]
theorem mV_eq (i : Nat) (en : En) (st : Sto) : mV i en st = (en[i]?.join).map fun d => (d, st) := by
  unfold mV
  split
  · rename_i d h
    rw [h]
    rfl
  · rename_i h
    cases e : en[i]? with
    | none => rfl
    | some o =>
      cases o with
      | none => rfl
      | some d => exact absurd e (h d)
theorem mDef_rt {N n : Nat} {b : MS} {ds : List D} {st st' : Sto} {d : D} (hl : ds.length = n) (h : b (ds.map some ++ List.replicate (N - ds.length) none) st = some (.rt d, st')) (hs : st'.length ≤ st.length := by first | exact Nat.le_refl _ | simp) : mDef N n b ds st = some (d, st') := by
  unfold mDef
  rw [if_pos hl, h]
  show some (settle st d st') = _
  rw [settle_self d hs]
theorem mSeq_nx {a b : MS} {en en' : En} {st st' : Sto} (h : a en st = some (.nx en', st')) : mSeq a b en st = b en' st' := by
  unfold mSeq
  rw [h]
  rfl
theorem mSeq_rt {a b : MS} {en : En} {st st' : Sto} {d : D} (h : a en st = some (.rt d, st')) : mSeq a b en st = some (.rt d, st') := by
  unfold mSeq
  rw [h]
  rfl
theorem mAsg_nx {m : ME} {g : MG} {en en' : En} {st st1 st2 : Sto} {d : D} (h : m en st = some (d, st1)) (hg : g d en st1 = some (en', st2)) : mAsg m g en st = some (.nx en', st2) := by
  unfold mAsg
  rw [h]
  show (g d en st1).bind _ = _
  rw [hg]
  rfl
theorem mRet_rt {m : ME} {en : En} {st st1 : Sto} {d : D} (h : m en st = some (d, st1)) : mRet m en st = some (.rt d, st1) := by
  unfold mRet
  rw [h]
  rfl
theorem mIfS_t {c : MB} {a b : MS} {en : En} {st st1 : Sto} (h : c en st = some (true, st1)) : mIfS c a b en st = a en st1 := by
  unfold mIfS
  rw [h]
  rfl
theorem mIfS_f {c : MB} {a b : MS} {en : En} {st st1 : Sto} (h : c en st = some (false, st1)) : mIfS c a b en st = b en st1 := by
  unfold mIfS
  rw [h]
  rfl
theorem ite_bind {α β : Type} {c : Prop} [Decidable c] (a b : Option α) (f : α → Option β) : (if c then a else b).bind f = if c then a.bind f else b.bind f := by
  split <;> rfl
theorem bite_bind {α β : Type} (c : Bool) (a b : Option α) (f : α → Option β) : (bif c then a else b).bind f = bif c then a.bind f else b.bind f := by
  cases c <;> rfl

/-! ### lists of ints -/
def rngI (lo : Int) (n : Nat) : List Int := (List.range n).map fun (i : Nat) => lo + (i : Int)
theorem rngD_eq (lo : Int) (n : Nat) : rngD lo n = (rngI lo n).map D.int := by
  unfold rngD rngI
  rw [List.map_map]
  rfl
theorem mem_rngI {lo x : Int} {n : Nat} : x ∈ rngI lo n ↔ lo ≤ x ∧ x < lo + n := by
  unfold rngI
  simp only [List.mem_map, List.mem_range]
  constructor
  · rintro ⟨i, hi, rfl⟩
    omega
  · intro h
    exact ⟨(x - lo).toNat, by omega, by omega⟩
theorem length_rngI (lo : Int) (n : Nat) : (rngI lo n).length = n := by
  unfold rngI
  simp
theorem look_tup (ds : List D) (st : Sto) : look (.tup ds) st = some ds := rfl
theorem look_lst (ds : List D) (st : Sto) : look (.lst ds) st = some ds := rfl
theorem look_fro (ds : List D) (st : Sto) : look (.fro ds) st = some ds := rfl
theorem lookL_lst (ds : List D) (st : Sto) : lookL (.lst ds) st = some ds := rfl
theorem flat_ints (ns : List Int) : (ns.map D.int).all flatD = true := by
  rw [List.all_map]
  exact List.all_eq_true.mpr fun _ _ => rfl
theorem inD_ints (x : Int) (ns : List Int) : inD (.int x) (ns.map D.int) = decide (x ∈ ns) := by
  unfold inD
  rw [List.any_map]
  rw [Bool.eq_iff_iff]
  simp only [List.any_eq_true, Function.comp, eqF, decide_eq_true_eq, beq_iff_eq]
  constructor
  · rintro ⟨y, hy, rfl⟩
    exact hy
  · exact fun h => ⟨x, h, rfl⟩
theorem fIn_ints (neg : Bool) (x : Int) (d : D) (ns : List Int) (st : Sto) (h : look d st = some (ns.map D.int)) : fIn neg (.int x) d st = some (.bl (if neg then !decide (x ∈ ns) else decide (x ∈ ns)), st) := by
  unfold fIn
  rw [h]
  show (if flatD (.int x) = true ∧ (ns.map D.int).all flatD = true then _ else _) = _
  rw [if_pos ⟨rfl, flat_ints ns⟩, inD_ints]
theorem fIn_tup (neg : Bool) (x : Int) (ns : List Int) (st : Sto) : fIn neg (.int x) (.tup (ns.map D.int)) st = some (.bl (if neg then !decide (x ∈ ns) else decide (x ∈ ns)), st) := fIn_ints neg x _ ns st rfl
theorem fIn_lst (neg : Bool) (x : Int) (ns : List Int) (st : Sto) : fIn neg (.int x) (.lst (ns.map D.int)) st = some (.bl (if neg then !decide (x ∈ ns) else decide (x ∈ ns)), st) := fIn_ints neg x _ ns st rfl
theorem atI_map {α β : Type} (f : α → β) (xs : List α) (i : Int) : atI (xs.map f) i = (atI xs i).map f := by
  unfold atI
  rw [List.length_map]
  cases ixN xs.length i with
  | none => rfl
  | some j => simp
theorem atI_nat {α : Type} {xs : List α} {i : Int} (h0 : 0 ≤ i) (h : i < xs.length) : atI xs i = some (xs[i.toNat]'(by omega)) := by
  unfold atI ixN
  rw [if_pos h0, if_pos h]
  exact List.getElem?_eq_getElem (by omega)
theorem atI_get {α : Type} {xs : List α} {i : Int} {j : Nat} {x : α} (h : xs[j]? = some x) (e : i = (j : Int)) : atI xs i = some x := by
  obtain ⟨h1, h2⟩ := List.getElem?_eq_some_iff.mp h
  subst e
  rw [atI_nat (by omega) (by omega)]
  simp [h2]
theorem atI_mem {α : Type} {xs : List α} {i : Int} (h0 : 0 ≤ i) (h : i < xs.length) : ∃ x, atI xs i = some x ∧ x ∈ xs := ⟨_, atI_nat h0 h, List.getElem_mem _⟩
theorem atI_neg1 {α : Type} {xs : List α} (h : xs ≠ []) : atI xs (-1) = some (xs.getLast h) := by
  unfold atI ixN
  have hl : 0 < xs.length := List.length_pos_iff.mpr h
  rw [if_neg (by decide), if_pos (by omega)]
  show xs[(-1 + (xs.length : Int)).toNat]? = _
  rw [show (-1 + (xs.length : Int)).toNat = xs.length - 1 by omega, List.getLast_eq_getElem, List.getElem?_eq_getElem]
theorem cutD_take (ds : List D) (k : Int) (h : 0 ≤ k) : cutD ds none (some k) = ds.take k.toNat := by
  unfold cutD HT.sIx
  dsimp only
  rw [if_neg (by omega), List.drop_zero, Nat.sub_zero]
  rw [List.take_eq_take_iff]
  omega

/-! ### loops -/
def outOk (N B : En → Sto → Prop) (R : D → Sto → Prop) (o : Out) (st : Sto) : Prop := match o with
  | .nx e => N e st
  | .ct e => N e st
  | .bk e => B e st
  | .rt d => R d st
theorem forL_inv {s : Src} {T : Tg} {b : MS} (I : Nat → En → Sto → Prop) (B : En → Sto → Prop) (R : D → Sto → Prop) (hok : ∀ i en st, I i en st → s.ok st)
    (step : ∀ (i : Nat) d en st, s.ds[i]? = some d → I i en st → ∃ en' o st', setTg T d en = some en' ∧ b en' st = some (o, st') ∧ outOk (I (i + 1)) B R o st') :
    ∀ (ds : List D) (i : Nat) (en : En) (st : Sto), s.ds.drop i = ds → i ≤ s.ds.length → I i en st → ∃ o st', forL s T b ds en st = some (o, st') ∧ match o with
      | .nx e => I s.ds.length e st' ∨ B e st'
      | .rt d => R d st'
      | _ => False
  | [], i, en, st, hd, hi, hI => by
    refine ⟨.nx en, st, ?_, ?_⟩
    · unfold forL
      rw [if_pos (hok i en st hI)]
    · have hl : s.ds.length ≤ i := List.drop_eq_nil_iff.mp hd
      have e : i = s.ds.length := by omega
      rw [← e]
      exact .inl hI
  | d :: ds, i, en, st, hd, hi, hI => by
    have hg : s.ds[i]? = some d := by
      have := congrArg List.head? hd
      rw [List.head?_drop] at this
      exact this
    have hlt := (List.getElem?_eq_some_iff.mp hg).1
    obtain ⟨en', o, st', h1, h2, h3⟩ := step i d en st hg hI
    have hd' : s.ds.drop (i + 1) = ds := by
      rw [← List.tail_drop, hd]
      rfl
    unfold forL
    rw [if_pos (hok i en st hI), h1]
    show ∃ o st', ((b en' st).bind _) = some (o, st') ∧ _
    rw [h2]
    cases o with
    | nx e => exact forL_inv I B R hok step ds (i + 1) e st' hd' hlt h3
    | ct e => exact forL_inv I B R hok step ds (i + 1) e st' hd' hlt h3
    | bk e => exact ⟨.nx e, st', rfl, .inr h3⟩
    | rt d => exact ⟨.rt d, st', rfl, h3⟩
/-- a for, by what holds ahead of turn i (I), behind a break (B), at a return (R) -/
theorem for_inv {mi : MI} {T : Tg} {b : MS} {en : En} {st st1 : Sto} {s : Src} (hm : mi en st = some (s, st1)) (I : Nat → En → Sto → Prop) (B : En → Sto → Prop) (R : D → Sto → Prop) (hok : ∀ i en st, I i en st → s.ok st) (h0 : I 0 en st1)
    (step : ∀ (i : Nat) d en st, s.ds[i]? = some d → I i en st → ∃ en' o st', setTg T d en = some en' ∧ b en' st = some (o, st') ∧ outOk (I (i + 1)) B R o st') :
    ∃ o st', mFor mi T b en st = some (o, st') ∧ match o with
      | .nx e => I s.ds.length e st' ∨ B e st'
      | .rt d => R d st'
      | _ => False := by
  unfold mFor
  rw [hm]
  exact forL_inv I B R hok step s.ds 0 en st1 rfl (Nat.zero_le _) h0
/-- a while, by what holds at each test and a number that falls -/
theorem while_inv {c : MB} {b : MS} (I : En → Sto → Prop) (μ : En → Sto → Nat) (N : En → Sto → Prop) (R : D → Sto → Prop)
    (step : ∀ en st, I en st → ∃ t st1, c en st = some (t, st1) ∧ (t = false → N en st1) ∧ (t = true → ∃ o st2, b en st1 = some (o, st2) ∧ outOk (fun e s => I e s ∧ μ e s < μ en st) N R o st2)) :
    ∀ (n : Nat) (en : En) (st : Sto), μ en st < n → I en st → ∃ o st', mWhN c b n en st = some (o, st') ∧ match o with
      | .nx e => N e st'
      | .rt d => R d st'
      | _ => False
  | 0, en, st, h, _ => by omega
  | n + 1, en, st, h, hI => by
    obtain ⟨t, st1, h1, h2, h3⟩ := step en st hI
    unfold mWhN
    rw [h1]
    cases t with
    | false => exact ⟨.nx en, st1, rfl, h2 rfl⟩
    | true =>
      obtain ⟨o, st2, h4, h5⟩ := h3 rfl
      show ∃ o st', ((b en st1).bind _) = some (o, st') ∧ _
      rw [h4]
      cases o with
      | nx e => exact while_inv I μ N R step n e st2 (by have := h5.2; omega) h5.1
      | ct e => exact while_inv I μ N R step n e st2 (by have := h5.2; omega) h5.1
      | bk e => exact ⟨.nx e, st2, rfl, h5⟩
      | rt d => exact ⟨.rt d, st2, rfl, h5⟩
theorem wh_inv {c : MB} {b : MS} {en : En} {st : Sto} (I : En → Sto → Prop) (μ : En → Sto → Nat) (N : En → Sto → Prop) (R : D → Sto → Prop) (h0 : I en st)
    (step : ∀ en st, I en st → ∃ t st1, c en st = some (t, st1) ∧ (t = false → N en st1) ∧ (t = true → ∃ o st2, b en st1 = some (o, st2) ∧ outOk (fun e s => I e s ∧ μ e s < μ en st) N R o st2)) :
    ∃ o st', mWh c b en st = some (o, st') ∧ match o with
      | .nx e => N e st'
      | .rt d => R d st'
      | _ => False := by
  obtain ⟨o, st', h, k⟩ := while_inv I μ N R step (μ en st + 1) en st (Nat.lt_succ_self _) h0
  exact ⟨o, st', mWh_of h, k⟩
/-- a comprehension that leaves the store as it is -/
theorem lcL_pure {s : Src} {T : Tg} {tt : MB} {te : ME} {en : En} {st : Sto} (p : D → Bool) (f : D → D) (hok : s.ok st) : ∀ (ds acc : List D), acc.length + ds.length < sizeLine →
    (∀ d ∈ ds, ∃ en', setTg T d en = some en' ∧ tt en' st = some (p d, st) ∧ (p d = true → te en' st = some (f d, st))) → lcL s T tt te en ds acc st = some (acc ++ (ds.filter p).map f, st)
  | [], acc, _, _ => by
    unfold lcL
    rw [if_pos hok]
    simp
  | d :: ds, acc, hl, h => by
    obtain ⟨en', h1, h2, h3⟩ := h d (by simp)
    unfold lcL
    rw [if_pos hok, h1]
    show ((tt en' st).bind _) = _
    rw [h2]
    rw [List.length_cons] at hl
    cases hp : p d with
    | true =>
      show ((te en' st).bind _) = _
      rw [h3 hp]
      show (if acc.length < sizeLine then lcL s T tt te en ds (acc ++ [f d]) st else none) = _
      rw [if_pos (by omega), lcL_pure p f hok ds _ (by rw [List.length_append]; simp only [List.length_cons, List.length_nil]; omega) fun d' hd' => h d' (List.mem_cons_of_mem _ hd'), List.filter_cons_of_pos hp, List.map_cons, List.append_assoc]
      rfl
    | false =>
      show lcL s T tt te en ds acc st = _
      rw [lcL_pure p f hok ds acc (by omega) fun d' hd' => h d' (List.mem_cons_of_mem _ hd'), List.filter_cons_of_neg (by rw [hp]; decide)]
theorem lc_pure {mu : Bool} {mi : MI} {T : Tg} {tt : MB} {te : ME} {vs : List Nat} {en : En} {st st1 : Sto} {s : Src} (hm : mi en st = some (s, st1)) (p : D → Bool) (f : D → D) (hok : s.ok st1) (hl : s.ds.length < sizeLine)
    (h : ∀ d ∈ s.ds, ∃ en', setTg T d (wipeE en vs) = some en' ∧ tt en' st1 = some (p d, st1) ∧ (p d = true → te en' st1 = some (f d, st1))) : mLc mu mi T tt te vs en st = some (alloc mu ((s.ds.filter p).map f) st1) := by
  unfold mLc
  rw [hm]
  show ((lcL s T tt te (wipeE en vs) s.ds [] st1).map _) = _
  rw [lcL_pure p f hok s.ds [] (by simpa using hl) h]
  rfl
theorem map_filter_ints (ns : List Int) (p : Int → Bool) (f : Int → D) (P : D → Bool) (F : D → D) (hp : ∀ n ∈ ns, P (.int n) = p n) (hf : ∀ n ∈ ns, p n = true → F (.int n) = f n) : ((ns.map D.int).filter P).map F = (ns.filter p).map f := by
  induction ns with
  | nil => rfl
  | cons n ns ih =>
    have ih := ih (fun m hm => hp m (List.mem_cons_of_mem _ hm)) fun m hm => hf m (List.mem_cons_of_mem _ hm)
    rw [List.map_cons]
    cases h : p n with
    | true => rw [List.filter_cons_of_pos (by rw [hp n (by simp), h]), List.filter_cons_of_pos h, List.map_cons, List.map_cons, ih, hf n (by simp) h]
    | false => rw [List.filter_cons_of_neg (by rw [hp n (by simp), h]; decide), List.filter_cons_of_neg (by rw [h]; decide), ih]
/-- over ints -/
theorem lc_ints {mu : Bool} {mi : MI} {T : Tg} {tt : MB} {te : ME} {vs : List Nat} {en : En} {st st1 : Sto} {ns : List Int} (hm : mi en st = some (⟨ns.map D.int, none⟩, st1)) (p : Int → Bool) (f : Int → D) (hl : ns.length < sizeLine)
    (h : ∀ n ∈ ns, ∃ en', setTg T (.int n) (wipeE en vs) = some en' ∧ tt en' st1 = some (p n, st1) ∧ (p n = true → te en' st1 = some (f n, st1))) : mLc mu mi T tt te vs en st = some (alloc mu ((ns.filter p).map f) st1) := by
  let P : D → Bool := fun d => match d with | .int n => p n | _ => false
  let F : D → D := fun d => match d with | .int n => f n | _ => .non
  rw [lc_pure hm P F trivial (by simpa using hl) fun d hd => by
    obtain ⟨n, hn, rfl⟩ := List.mem_map.mp hd
    exact h n hn]
  rw [map_filter_ints ns p f P F (fun _ _ => rfl) fun _ _ _ => rfl]
/-- a comprehension, by what holds of the store and of what is made so far -/
theorem lcL_inv {s : Src} {T : Tg} {tt : MB} {te : ME} {en : En} (I : Nat → List D → Sto → Prop) (hok : ∀ i acc st, I i acc st → s.ok st) (hz : ∀ i acc st, I i acc st → acc.length < sizeLine)
    (step : ∀ (i : Nat) d acc st, s.ds[i]? = some d → I i acc st → ∃ en' t st1, setTg T d en = some en' ∧ tt en' st = some (t, st1) ∧ (t = false → I (i + 1) acc st1) ∧ (t = true → ∃ y st2, te en' st1 = some (y, st2) ∧ I (i + 1) (acc ++ [y]) st2)) :
    ∀ (ds : List D) (i : Nat) (acc : List D) (st : Sto), s.ds.drop i = ds → i ≤ s.ds.length → I i acc st → ∃ ys st', lcL s T tt te en ds acc st = some (ys, st') ∧ I s.ds.length ys st'
  | [], i, acc, st, hd, hi, hI => by
    have hl : s.ds.length ≤ i := List.drop_eq_nil_iff.mp hd
    have e : i = s.ds.length := by omega
    refine ⟨acc, st, ?_, by rw [← e]; exact hI⟩
    unfold lcL
    rw [if_pos (hok i acc st hI)]
  | d :: ds, i, acc, st, hd, hi, hI => by
    have hg : s.ds[i]? = some d := by
      have := congrArg List.head? hd
      rw [List.head?_drop] at this
      exact this
    have hlt := (List.getElem?_eq_some_iff.mp hg).1
    have hd' : s.ds.drop (i + 1) = ds := by
      rw [← List.tail_drop, hd]
      rfl
    obtain ⟨en', t, st1, h1, h2, h3, h4⟩ := step i d acc st hg hI
    unfold lcL
    rw [if_pos (hok i acc st hI), h1]
    show ∃ ys st', ((tt en' st).bind _) = some (ys, st') ∧ _
    rw [h2]
    cases t with
    | false => exact lcL_inv I hok hz step ds (i + 1) acc st1 hd' hlt (h3 rfl)
    | true =>
      obtain ⟨y, st2, h5, h6⟩ := h4 rfl
      show ∃ ys st', ((te en' st1).bind _) = some (ys, st') ∧ _
      rw [h5]
      show ∃ ys st', (if acc.length < sizeLine then lcL s T tt te en ds (acc ++ [y]) st2 else none) = some (ys, st') ∧ _
      rw [if_pos (hz i acc st hI)]
      exact lcL_inv I hok hz step ds (i + 1) (acc ++ [y]) st2 hd' hlt h6
theorem lc_inv {mu : Bool} {mi : MI} {T : Tg} {tt : MB} {te : ME} {vs : List Nat} {en : En} {st st1 : Sto} {s : Src} (hm : mi en st = some (s, st1)) (I : Nat → List D → Sto → Prop) (hok : ∀ i acc st, I i acc st → s.ok st) (hz : ∀ i acc st, I i acc st → acc.length < sizeLine) (h0 : I 0 [] st1)
    (step : ∀ (i : Nat) d acc st, s.ds[i]? = some d → I i acc st → ∃ en' t st1, setTg T d (wipeE en vs) = some en' ∧ tt en' st = some (t, st1) ∧ (t = false → I (i + 1) acc st1) ∧ (t = true → ∃ y st2, te en' st1 = some (y, st2) ∧ I (i + 1) (acc ++ [y]) st2)) :
    ∃ ys st', mLc mu mi T tt te vs en st = some (alloc mu ys st') ∧ I s.ds.length ys st' := by
  obtain ⟨ys, st', h, k⟩ := lcL_inv I hok hz step s.ds 0 [] st1 rfl (Nat.zero_le _) h0
  refine ⟨ys, st', ?_, k⟩
  unfold mLc
  rw [hm]
  show ((lcL s T tt te (wipeE en vs) s.ds [] st1).map _) = _
  rw [h]
  rfl
theorem forL_nx {s : Src} {T : Tg} {b : MS} {d : D} {r : List D} {en en' en2 : En} {st st2 : Sto} (hok : s.ok st) (h1 : setTg T d en = some en') (h2 : b en' st = some (.nx en2, st2)) : forL s T b (d :: r) en st = forL s T b r en2 st2 := by
  conv => lhs; unfold forL
  rw [if_pos hok, h1]
  show ((b en' st).bind _) = _
  rw [h2]
  rfl
theorem forL_rt {s : Src} {T : Tg} {b : MS} {d x : D} {r : List D} {en en' : En} {st st2 : Sto} (hok : s.ok st) (h1 : setTg T d en = some en') (h2 : b en' st = some (.rt x, st2)) : forL s T b (d :: r) en st = some (.rt x, st2) := by
  conv => lhs; unfold forL
  rw [if_pos hok, h1]
  show ((b en' st).bind _) = _
  rw [h2]
  rfl
theorem forL_nil {s : Src} {T : Tg} {b : MS} {en : En} {st : Sto} (hok : s.ok st) : forL s T b [] en st = some (.nx en, st) := by
  unfold forL
  rw [if_pos hok]
theorem ok_none {ds : List D} {st : Sto} : (⟨ds, none⟩ : Src).ok st := trivial
/-- no number is met, or the first one that is -/
theorem for_find {mi : MI} {T : Tg} {b : MS} {en : En} {st st1 : Sto} {ns : List Int} (hm : mi en st = some (⟨ns.map D.int, none⟩, st1)) (p : Int → Bool) (g : Int → D) (E : En → Prop) (h0 : E en)
    (step : ∀ n ∈ ns, ∀ en, E en → ∃ en', setTg T (.int n) en = some en' ∧ (p n = true → b en' st1 = some (.rt (g n), st1)) ∧ (p n = false → ∃ en2, b en' st1 = some (.nx en2, st1) ∧ E en2)) :
    (∃ en2, ns.find? p = none ∧ mFor mi T b en st = some (.nx en2, st1) ∧ E en2) ∨ ∃ n, ns.find? p = some n ∧ mFor mi T b en st = some (.rt (g n), st1) := by
  unfold mFor
  rw [hm]
  show (∃ en2, ns.find? p = none ∧ forL ⟨ns.map D.int, none⟩ T b (ns.map D.int) en st1 = some (.nx en2, st1) ∧ E en2) ∨ ∃ n, ns.find? p = some n ∧ forL ⟨ns.map D.int, none⟩ T b (ns.map D.int) en st1 = some (.rt (g n), st1)
  have gen : ∀ (ms : List Int), (∀ n ∈ ms, n ∈ ns) → ∀ en, E en → (∃ en2, ms.find? p = none ∧ forL ⟨ns.map D.int, none⟩ T b (ms.map D.int) en st1 = some (.nx en2, st1) ∧ E en2) ∨ ∃ n, ms.find? p = some n ∧ forL ⟨ns.map D.int, none⟩ T b (ms.map D.int) en st1 = some (.rt (g n), st1) := by
    intro ms
    induction ms with
    | nil =>
      intro _ en hE
      refine .inl ⟨en, rfl, ?_, hE⟩
      rw [List.map_nil]
      unfold forL
      rw [if_pos (show (⟨ns.map D.int, none⟩ : Src).ok st1 from trivial)]
    | cons n ms ih =>
      intro hs en hE
      obtain ⟨en', h1, h2, h3⟩ := step n (hs n (by simp)) en hE
      rw [List.map_cons]
      cases hp : p n with
      | true => exact .inr ⟨n, List.find?_cons_of_pos hp, forL_rt ok_none h1 (h2 hp)⟩
      | false =>
        obtain ⟨en2, h4, h5⟩ := h3 hp
        rw [forL_nx ok_none h1 h4, List.find?_cons_of_neg (by rw [hp]; decide)]
        exact ih (fun m hm => hs m (List.mem_cons_of_mem _ hm)) en2 h5
  exact gen ns (fun _ h => h) en h0
end My
namespace My
open PySem PySem.Spec PyProof.Rows L2
theorem atI_0 {α : Type} (x : α) (l : List α) : atI (x :: l) 0 = some x := atI_nat (by omega) (by simp)
theorem atI_1 {α : Type} (x y : α) (l : List α) : atI (x :: y :: l) 1 = some y := atI_nat (by omega) (by simp; omega)
theorem atI_2 {α : Type} (x y z : α) (l : List α) : atI (x :: y :: z :: l) 2 = some z := atI_nat (by omega) (by simp; omega)
theorem atI_3 {α : Type} (x y z u : α) (l : List α) : atI (x :: y :: z :: u :: l) 3 = some u := atI_nat (by omega) (by simp; omega)
theorem fLen_tup (ds : List D) (st : Sto) : fLen [.tup ds] st = some (.int ds.length, st) := rfl
theorem fLen_lst (ds : List D) (st : Sto) : fLen [.lst ds] st = some (.int ds.length, st) := rfl
theorem fTuple_tup (ds : List D) (st : Sto) : fTuple [.tup ds] st = some (.tup ds, st) := rfl
theorem fTuple_lst (ds : List D) (st : Sto) : fTuple [.lst ds] st = some (.tup ds, st) := rfl
theorem alloc_f (ds : List D) (st : Sto) : alloc false ds st = (.lst ds, st) := rfl
theorem alloc_t (ds : List D) (st : Sto) : alloc true ds st = (.loc st.length, st ++ [.lst ds]) := rfl
theorem fEq_int (i j : Int) (st : Sto) : fEq (.int i) (.int j) st = some (.bl (decide (i = j)), st) := rfl
theorem fNe_int (i j : Int) (st : Sto) : fNe (.int i) (.int j) st = some (.bl (!decide (i = j)), st) := rfl
theorem fMaxL_2 (i j : Int) (st : Sto) : fMaxL [.int i, .int j] st = some (.int (if j > i then j else i), st) := rfl
theorem fMinL_2 (i j : Int) (st : Sto) : fMinL [.int i, .int j] st = some (.int (if j < i then j else i), st) := rfl
theorem fSorted_ints (ns : List Int) (st : Sto) : fSorted false [.lst (ns.map D.int)] st = some (.lst ((sortI ns).map D.int), st) := by
  show ((intsOf (ns.map D.int)).map _) = _
  rw [intsOf_map]
  rfl
theorem fIsN_int (neg : Bool) (i : Int) (st : Sto) : fIsN neg (.int i) .non st = some (.bl neg, st) := by cases neg <;> rfl
theorem fIsN_non (neg : Bool) (st : Sto) : fIsN neg .non .non st = some (.bl (!neg), st) := by cases neg <;> rfl
theorem fIsN_tup (neg : Bool) (ds : List D) (st : Sto) : fIsN neg (.tup ds) .non st = some (.bl neg, st) := by cases neg <;> rfl
theorem fInt_int (i : Int) (st : Sto) : fInt [.int i] st = some (.int i, st) := rfl
def oD : Option Int → D
  | none => .non
  | some i => .int i
end My
namespace My
theorem szlt {n : Nat} (h : n < 10000000) : n < PySem.sizeLine := Nat.lt_of_lt_of_le h (by decide)
theorem szle {n : Nat} (h : n < 10000000) : n ≤ PySem.sizeLine := Nat.le_of_lt (szlt h)
theorem szle0 : 0 ≤ PySem.sizeLine := Nat.zero_le _
theorem lg {n : Nat} (h : n < 2 ^ 9000) (h0 : 0 < n) : n.log2 < 9000 := (Nat.log2_lt (by omega)).mpr h
theorem lgI {n : Int} (h : n < 10 ^ 18) (h0 : 0 < n) : n.natAbs.log2 < 9000 := by
  refine Nat.lt_of_lt_of_le ((Nat.log2_lt (n := n.natAbs) (k := 60) (by omega)).mpr ?_) (by decide)
  have : (10 : Int) ^ 18 < 2 ^ 60 := by decide
  have e : ((2 ^ 60 : Nat) : Int) = 2 ^ 60 := by decide
  omega
end My
namespace My
open PySem PySem.Spec PyProof.Rows L2
theorem atI_natCast {α : Type} (xs : List α) (j : Nat) : atI xs (j : Int) = xs[j]? := by
  by_cases h : j < xs.length
  · rw [atI_nat (by omega) (by omega), List.getElem?_eq_getElem h]
    simp
  · rw [List.getElem?_eq_none (by omega)]
    unfold atI ixN
    rw [if_pos (by omega), if_neg (by omega)]
    rfl
theorem fAdd_int (mu : Bool) (i j : Int) (st : Sto) : fAdd mu (.int i) (.int j) st = some (.int (i + j), st) := rfl
theorem fAdd_tup (mu : Bool) (xs ys : List D) (st : Sto) : fAdd mu (.tup xs) (.tup ys) st = if xs.length + ys.length ≤ sizeLine then some (.tup (xs ++ ys), st) else none := rfl
theorem fAdd_lst (mu : Bool) (xs ys : List D) (st : Sto) : fAdd mu (.lst xs) (.lst ys) st = if xs.length + ys.length ≤ sizeLine then some (alloc mu (xs ++ ys) st) else none := rfl
theorem fSub_int (i j : Int) (st : Sto) : fSub (.int i) (.int j) st = some (.int (i - j), st) := rfl
theorem fMul_int (mu : Bool) (i j : Int) (st : Sto) : fMul mu (.int i) (.int j) st = if cMul i j = true then some (.int (i * j), st) else none := Eq.trans rfl (by cases st <;> rfl)
theorem fDiv_int (i j : Int) (st : Sto) : fDiv (.int i) (.int j) st = if cDiv i j = true then some (.int (i / j), st) else none := Eq.trans rfl (by cases st <;> rfl)
theorem fMod_int (i j : Int) (st : Sto) : fMod (.int i) (.int j) st = if cMod i j = true then some (.int (i % j), st) else none := Eq.trans rfl (by cases st <;> rfl)
theorem fNeg_int (i : Int) (st : Sto) : fNeg (.int i) st = some (.int (-i), st) := rfl
theorem fLt_int (i j : Int) (st : Sto) : fLt (.int i) (.int j) st = some (.bl (decide (i < j)), st) := rfl
theorem cDiv_ok {i j : Int} (h : 0 < j) (h2 : j < 10 ^ 18) : cDiv i j = true := by
  unfold cDiv
  rw [decide_eq_true h, decide_eq_true (lgI h2 h)]
  rfl
theorem cMod_ok {i j : Int} (h : 0 < j) : cMod i j = true := decide_eq_true h
theorem cMul_r {i j : Int} (h : -(10 ^ 18) < j ∧ j < 10 ^ 18) : cMul i j = true := by
  unfold cMul
  rw [small_of (i := j) (by omega), Bool.or_true]
theorem cMul_l {i j : Int} (h : -(10 ^ 18) < i ∧ i < 10 ^ 18) : cMul i j = true := by
  unfold cMul
  rw [small_of (i := i) (by omega)]
  rfl
theorem small_ok {i : Int} (h : -(10 ^ 18) < i ∧ i < 10 ^ 18) : small i = true := small_of (by omega)
/-- as the library's, but no check reckons through it -/
theorem b_some {α β : Type} (a : α) (f : α → Option β) : (some a).bind f = f a := Eq.trans (Eq.refl _) (Eq.refl _)
theorem b_none {α β : Type} (f : α → Option β) : (none : Option α).bind f = none := Eq.trans rfl (Eq.refl none)
theorem m_some {α β : Type} (a : α) (f : α → β) : (some a).map f = some (f a) := Eq.trans rfl (Eq.refl _)
end My
namespace My
open PySem PySem.Spec PyProof.Rows L2
theorem look_loc (n : Nat) (st : Sto) : look (.loc n) st = match st[n]? with
    | some (.lst ds) => some ds
    | _ => none := rfl
theorem lookL_loc (n : Nat) (st : Sto) : lookL (.loc n) st = match st[n]? with
    | some (.lst ds) => some ds
    | _ => none := rfl
theorem fLen_loc (n : Nat) (st : Sto) : fLen [.loc n] st = (look (.loc n) st).map fun es => (.int es.length, st) := rfl
theorem ixN_0 (n : Nat) : ixN (n + 1) 0 = some 0 := by
  unfold ixN
  rw [if_pos (by omega), if_pos (by omega)]
  rfl
theorem ixN_1 (n : Nat) : ixN (n + 2) 1 = some 1 := by
  unfold ixN
  rw [if_pos (by omega), if_pos (by omega)]
  rfl
theorem ixN_2 (n : Nat) : ixN (n + 3) 2 = some 2 := by
  unfold ixN
  rw [if_pos (by omega), if_pos (by omega)]
  rfl
theorem ixN_3 (n : Nat) : ixN (n + 4) 3 = some 3 := by
  unfold ixN
  rw [if_pos (by omega), if_pos (by omega)]
  rfl
theorem fSetL_loc (n : Nat) (k : Int) (c : D) (st : Sto) : fSetL (.loc n) (.int k) c st = match st[n]? with
    | some (.lst ds) => (ixN ds.length k).map fun j => st.set n (.lst (ds.set j c))
    | _ => none := rfl
theorem fAppend_loc (n : Nat) (d : D) (st : Sto) : fAppend (.loc n) [d] st = match st[n]? with
    | some (.lst es) => if es.length < sizeLine then some (.non, st.set n (.lst (es ++ [d]))) else none
    | _ => none := rfl
theorem fPop_loc (n : Nat) (st : Sto) : fPop (.loc n) [] st = match st[n]? with
    | some (.lst es) => es[es.length - 1]?.map fun d => (d, st.set n (.lst es.dropLast))
    | _ => none := rfl
theorem fExtend_loc (n : Nat) (b : D) (st : Sto) : fExtend (.loc n) [b] st = match st[n]? with
    | some (.lst es) => (lookL b st).bind fun fs => if es.length + fs.length ≤ sizeLine then some (.non, st.set n (.lst (es ++ fs))) else none
    | _ => none := rfl
end My
namespace My
open PySem PySem.Spec PyProof.Rows L2
theorem last_concat (l : List D) (d : D) : (l ++ [d])[(l ++ [d]).length - 1]? = some d := by simp
theorem fShl_int (i j : Int) (st : Sto) : fShl (.int i) (.int j) st = if cPow i j = true then some (.int (i * 2 ^ j.toNat), st) else none := Eq.trans (Eq.refl _) (Eq.refl _)
theorem fPow_int (i j : Int) (st : Sto) : fPow (.int i) (.int j) st = if cPow i j = true then some (.int (i ^ j.toNat), st) else none := Eq.trans (Eq.refl _) (Eq.refl _)
theorem fAbs_int (i : Int) (st : Sto) : fAbs [.int i] st = some (.int (if i < 0 then -i else i), st) := rfl
theorem two_pos (j : Nat) : (0 : Int) < 1 * 2 ^ j := by
  rw [Int.one_mul]
  exact Int.pow_pos (by decide)
theorem fEq_bl (x y : Bool) (st : Sto) : fEq (.bl x) (.bl y) st = some (.bl (decide (x = y)), st) := rfl
theorem fIsi_tt (ds : List D) (st : Sto) : fIsi [.tup ds, .ty "tuple"] st = some (.bl true, st) := rfl
theorem fIsi_it (i : Int) (st : Sto) : fIsi [.int i, .ty "tuple"] st = some (.bl false, st) := rfl
theorem fIsi_ii (i : Int) (st : Sto) : fIsi [.int i, .ty "int"] st = some (.bl true, st) := rfl
theorem fIsi_ib (i : Int) (st : Sto) : fIsi [.int i, .ty "bool"] st = some (.bl false, st) := rfl
theorem fIsi_is (i : Int) (st : Sto) : fIsi [.int i, .ty "str"] st = some (.bl false, st) := rfl
theorem fIsi_bt (i : Bool) (st : Sto) : fIsi [.bl i, .ty "tuple"] st = some (.bl false, st) := rfl
theorem fIsi_bi (i : Bool) (st : Sto) : fIsi [.bl i, .ty "int"] st = some (.bl true, st) := rfl
theorem fIsi_bb (i : Bool) (st : Sto) : fIsi [.bl i, .ty "bool"] st = some (.bl true, st) := rfl
theorem fIsi_tb (ds : List D) (st : Sto) : fIsi [.tup ds, .ty "bool"] st = some (.bl false, st) := rfl
theorem fIsi_ti (ds : List D) (st : Sto) : fIsi [.tup ds, .ty "int"] st = some (.bl false, st) := rfl
theorem fIsi_ts (ds : List D) (st : Sto) : fIsi [.tup ds, .ty "str"] st = some (.bl false, st) := rfl
theorem cut_ints (ns : List Int) (k : Int) (h : 0 ≤ k) : cutD (ns.map D.int) none (some k) = (ns.take k.toNat).map D.int := by
  rw [cutD_take _ _ h, List.map_take]
theorem rng_get {lo : Int} {n i : Nat} {d : D} (h : (rngD lo n)[i]? = some d) : d = .int (lo + i) ∧ i < n := by
  unfold rngD at h
  rw [List.getElem?_map] at h
  obtain ⟨j, hj, rfl⟩ := Option.map_eq_some_iff.mp h
  obtain ⟨h1, h2⟩ := List.getElem?_eq_some_iff.mp hj
  rw [List.getElem_range] at h2
  rw [List.length_range] at h1
  subst h2
  exact ⟨rfl, h1⟩
theorem ints_get {ns : List Int} {i : Nat} {d : D} (h : (ns.map D.int)[i]? = some d) : ∃ n, ns[i]? = some n ∧ d = .int n := by
  rw [List.getElem?_map] at h
  obtain ⟨n, h1, h2⟩ := Option.map_eq_some_iff.mp h
  exact ⟨n, h1, h2.symm⟩
/-- numbers, None, tuples of such, to a depth -/
inductive Pl : Nat → D → Prop where
  | non (n : Nat) : Pl n .non
  | int (n : Nat) (i : Int) : Pl n (.int i)
  | bl (n : Nat) (b : Bool) : Pl n (.bl b)
  | tup (n : Nat) (ds : List D) (hl : ds.length < 10000000) (h : ∀ d ∈ ds, Pl n d) : Pl (n + 1) (.tup ds)
theorem Pl.mono {n m : Nat} {d : D} (h : Pl n d) (l : n ≤ m) : Pl m d := by
  induction h generalizing m with
  | non => exact .non m
  | int n i => exact .int m i
  | bl n i => exact .bl m i
  | tup n ds hl h ih =>
    obtain ⟨k, rfl⟩ : ∃ k, m = k + 1 := ⟨m - 1, by omega⟩
    exact .tup k ds hl fun d hd => ih d hd (by omega)
theorem Pl.ints (ns : List Int) (h : ns.length < 10000000) : Pl 1 (.tup (ns.map .int)) := .tup 0 _ (by simpa using h) fun d hd => by
  obtain ⟨i, _, rfl⟩ := List.mem_map.mp hd
  exact .int 0 i
theorem Pl.oD (n : Nat) (x : Option Int) : Pl n (My.oD x) := by
  cases x with
  | none => exact .non n
  | some i => exact .int n i
end My


namespace My
open PySem PySem.Spec PyProof.Rows L2
/-! ### set(xs) of a list of ints, so that it may be gone through -/
/-- the object that set() lays before it is filled -/
abbrev bareSet (w : World) : Obj := { cls := .type "set", dict := none, data := .set #[] 0 (.fresh 0 0 (!w.params.followText "set-order")) }
section
variable {P : Program} {w : World} {A : Around} {E : Value → Shared → Prop} {s : Shared}
set_option maxHeartbeats 8000000 in
theorem set_of_list {l : Addr} {vs : Array Value} (ns : List Int) {Q : Value → Shared → Prop} (calm : A.handled = none) (isl : s.heap.IsList l vs) (ari : IntsAre vs.toList ns) (few : ns.length + 1 < scanBound)
    (fin : ∀ (g : Heap) (tk c : Nat), SetR w g s.heap.objs.size (fun j => decide (j ∈ ns)) c → c ≤ ns.length → (∀ b o, s.heap.get? b = some o → g.get? b = some o) → Q (.ref s.heap.objs.size) { s with heap := g, toks := tk }) :
    wpAny (model P w) A (call (.type "set") [.ref l]) Q E s := by
  have sz : vs.size = ns.length := (Array.length_toList (xs := vs)).symm.trans (IntsAre.length ari)
  let D : Addr := s.heap.objs.size
  obtain ⟨c, tl, mro⟩ := F.called_set.mro
  have made := F.called_set.made
  have sub := F.called_set.sub
  have nt := F.called_set.notType
  have cc := F.called_set.canCreate
  have ct := F.typeCall_set_1 (.ref l)
  refine wpAny_call (codeAny_of_tree (?_ : wpAny _ _ (callAny (.type "set") _) _ _ _))
  refine wpAny_pure ⟨Code.quiet_builtin _ (by decide +kernel), codeAny_builtin F.entry_type_call (?_ : _)⟩
  rw [Around.under_plain (weight_type_call_type "set" [.ref l] []) rfl]
  repeat (any_goals (first | assumption | wp_step))
  refine codeAny_mono (code_set_led1 (.ref l) (E := E) (Q₁ := fun x u => x = .ref D ∧ u = { s with heap := s.heap.push (bareSet w) }) ⟨rfl, rfl⟩) fun r u hr => ?_
  match r, hr with
  | .error e, hr => exact hr
  | .ok (.ret x), ⟨ex, eu⟩ =>
    subst ex
    subst eu
    have gD : (s.heap.push (bareSet w)).get? D = some (bareSet w) := Heap.get?_push_size _ rfl
    have tD : Shared.TypeIs { s with heap := s.heap.push (bareSet w) } (.ref D) "set" := ⟨_, gD, rfl⟩
    have il := F.called_set.init.lookup
    have ib := F.called_set.init.bind (.ref D)
    repeat (any_goals (first | assumption | wp_step))
    refine codeAny_mono (codeAny_call_builtin (R := wants (fun r u => r = .none ∧ ∃ g tk c, u = { s with heap := g, toks := tk } ∧ SetR w g D (fun j => decide (j ∈ ns)) c ∧ c ≤ ns.length ∧ (∀ b o, s.heap.get? b = some o → g.get? b = some o)) E) F.called_set.init.plain F.entry_set_init (check_set_init_1 tD ?_)) fun r u hr => ?_
    · obtain ⟨⟨oc, od, ox, os⟩, ho, e1, nl, e2⟩ := isl
      simp only at e1 e2
      subst e1
      subst e2
      have ho2 : (s.heap.push (bareSet w)).get? l = some { cls := .type "list", dict := od, data := .seq vs nl, slots := os } := Heap.get?_push_of_some _ ho
      have isl2 : (s.heap.push (bareSet w)).IsList l vs := ⟨_, ho2, rfl, nl, rfl⟩
      have n1 := F.sub_list_set
      have n2 := F.sub_list_frozenset
      have n3 : (Value.type "list" == Value.type "dict") = false := by decide
      unfold Builtin.«set.__init__» noKeywords Builtin.Frozenset.updateFrom
      generalize hit : pyIter = it
      wp_walk
      subst hit
      refine wpAny_pyIter_list isl2 (wpAny_bind (wpAny_runValue (?_ : _)))
      have lD : l < D := Heap.lt_size ho
      have zI : (s.heap.push (bareSet w)).objs.size = D + 1 := Heap.size_push ..
      have nI : l ≠ (s.heap.push (bareSet w)).objs.size := by
        rw [zI]
        exact Nat.ne_of_lt (Nat.lt_succ_of_lt lD)
      have nD : D ∉ [(s.heap.push (bareSet w)).objs.size, l] := by
        rw [zI]
        intro m
        rcases List.mem_cons.mp m with m | m
        · exact Nat.ne_of_lt (Nat.lt_succ_self D) m
        · exact Nat.ne_of_gt lD (List.mem_singleton.mp m)
      have val : ∀ (i : Nat) (v : Value), vs[i]? = some v → ∃ k t, ns[i]? = some k ∧ v = .int k t := by
        intro i v hv
        have hi : i < ns.length := sz ▸ (Array.getElem?_eq_some_iff.mp hv).1
        obtain ⟨t, e⟩ := PyProof.Rows.IntsAre.int_at ari i v (by rw [Array.getElem?_toList]; exact hv)
        refine ⟨ns[i], t, List.getElem?_eq_getElem hi, e.trans ?_⟩
        rw [List.getD_eq_getElem?_getD, List.getElem?_eq_getElem hi]
        rfl
      refine set_update_ints ((Walks.list (by simp [calm] : A.in1.in1.in1.handled = none) _ l nI vs).toS) D nD ns sz few val (vs.size - 0) 0 _ (by omega) (Nat.zero_le _) ⟨⟨_, Heap.get?_push_size _ rfl, rfl, rfl⟩, (isl2.push _)⟩ ⟨0, Nat.le_refl 0, setR_new_at (Heap.get?_push_of_some _ gD)⟩ ?_
      rintro ⟨g, gs, dr, tk, os2⟩ c hm hc hS
      obtain rfl : gs = s.gens := hm.gens
      obtain rfl : dr = s.drawn := hm.drawn
      obtain rfl : os2 = s.os := hm.os
      refine wpAny_pure (?_ : wpAny _ _ (ret Value.none) _ _ _)
      refine wpAny_pure ⟨rfl, g, tk, c, rfl, hS, by rw [← sz]; exact hc, fun b o e => ?_⟩
      have bD : b < D := Heap.lt_size e
      refine hm.heap b o (fun m => ?_) (Heap.get?_push_of_some _ (Heap.get?_push_of_some _ e))
      rcases List.mem_cons.mp m with m | m
      · exact Nat.ne_of_lt bD m
      · have m2 := List.mem_singleton.mp m
        rw [zI] at m2
        exact Nat.ne_of_lt (Nat.lt_succ_of_lt bD) m2
    · match r, hr with
      | .error e, hr => exact hr
      | .ok (.ret r), ⟨er, g, tk, c, eu, hS, hc, hk⟩ =>
        subst er
        subst eu
        repeat (any_goals (first | assumption | wp_step))
        exact fin _ _ _ hS hc hk
end
end My


namespace My
open PySem PySem.Spec PyProof.Rows L2
/-! ### sorted lists without twins -/
def uq : List Int → List Int
  | [] => []
  | [x] => [x]
  | x :: y :: r => if x = y then uq (y :: r) else x :: uq (y :: r)
theorem mem_uq {k : Int} : ∀ {l : List Int}, k ∈ uq l ↔ k ∈ l
  | [] => Iff.rfl
  | [x] => Iff.rfl
  | x :: y :: r => by
    unfold uq
    have ih := mem_uq (k := k) (l := y :: r)
    by_cases h : x = y
    · rw [if_pos h, ih, List.mem_cons, h]
      simp
    · rw [if_neg h, List.mem_cons, ih, List.mem_cons (l := y :: r)]
theorem uq_lt : ∀ {l : List Int}, l.Pairwise (· ≤ ·) → (uq l).Pairwise (· < ·)
  | [], _ => List.Pairwise.nil
  | [x], _ => List.pairwise_singleton _ _
  | x :: y :: r, h => by
    obtain ⟨h1, h2⟩ := List.pairwise_cons.mp h
    unfold uq
    by_cases e : x = y
    · rw [if_pos e]
      exact uq_lt h2
    · rw [if_neg e]
      refine List.pairwise_cons.mpr ⟨fun z hz => ?_, uq_lt h2⟩
      have hz2 := mem_uq.mp hz
      have xy := h1 y (List.mem_cons_self ..)
      rcases List.mem_cons.mp hz2 with rfl | m
      · omega
      · have := (List.pairwise_cons.mp h2).1 z m
        omega
def sU (ns : List Int) : List Int := uq (sortI ns)
theorem sU_lt (ns : List Int) : (sU ns).Pairwise (· < ·) := uq_lt (sortI_pair ns)
theorem mem_sU {k : Int} {ns : List Int} : k ∈ sU ns ↔ k ∈ ns := by
  unfold sU
  rw [mem_uq, (sortI_perm ns).mem_iff]
theorem lt_uniq : ∀ {a b : List Int}, a.Pairwise (· < ·) → b.Pairwise (· < ·) → (∀ k, k ∈ a ↔ k ∈ b) → a = b
  | [], [], _, _, _ => rfl
  | [], y :: b, _, _, h => by have := (h y).mpr (List.mem_cons_self ..); simp at this
  | x :: a, [], _, _, h => by have := (h x).mp (List.mem_cons_self ..); simp at this
  | x :: a, y :: b, ha, hb, h => by
    obtain ⟨a1, a2⟩ := List.pairwise_cons.mp ha
    obtain ⟨b1, b2⟩ := List.pairwise_cons.mp hb
    have e : x = y := by
      rcases List.mem_cons.mp ((h x).mp (List.mem_cons_self ..)) with e | m
      · exact e
      · rcases List.mem_cons.mp ((h y).mpr (List.mem_cons_self ..)) with e | m2
        · exact e.symm
        · have := b1 x m
          have := a1 y m2
          omega
    subst e
    congr 1
    refine lt_uniq a2 b2 fun k => ⟨fun m => ?_, fun m => ?_⟩
    · rcases List.mem_cons.mp ((h k).mp (List.mem_cons_of_mem _ m)) with e | m2
      · have := a1 k m
        omega
      · exact m2
    · rcases List.mem_cons.mp ((h k).mpr (List.mem_cons_of_mem _ m)) with e | m2
      · have := b1 k m
        omega
      · exact m2
/-! ### sets: their rules -/
def rSetI (K : PySem.W.Frag) (w : World) : List V → Hp → VK → Prop := fun xs H Q => ∃ (p : Addr) (ns : List Int), xs = [.ref p] ∧ (SqL K H p (ns.map V.int) ∨ SqT K H p (ns.map V.int)) ∧ ns.length < 4000 ∧
  ∀ (q : Addr) (n : Nat), n ≤ ns.length → H q = none → Q (.ref q) (upd H q (SetO w q (fun k => decide (k ∈ ns)) n))
section
variable {X : Cx}
theorem cr_setI (calm : X.calm = true) : CallR X (.type "set") (rSetI X.K X.w) := by
  intro pins s σ H vs us Q I r h
  obtain ⟨p, ns, rfl, hs, few, q⟩ := h
  rw [Vals.ref1 r]
  have b : ns.length + 1 < scanBound := by
    unfold scanBound
    omega
  have go : ∀ (g : Heap) (tk c : Nat), SetR X.w g s.heap.objs.size (fun j => decide (j ∈ ns)) c → c ≤ ns.length → (∀ b o, s.heap.get? b = some o → g.get? b = some o) → EP X pins σ Q (.ref s.heap.objs.size) { s with heap := g, toks := tk } := fun g tk c S hc k =>
    ⟨.ref _, upd H s.heap.objs.size (SetO X.w s.heap.objs.size (fun j => decide (j ∈ ns)) c), I.laid (t' := tk) k (Nat.le_refl _) (setO_new S), rfl, q _ c hc (I.hok.fresh (Nat.le_refl _))⟩
  rcases hs with hs | hs
  · obtain ⟨its, rv, hl, hz⟩ := I.list hs
    exact set_of_list ns (I.ok.hd calm) hl.isList rv.ints b go
  · obtain ⟨its, rv, hl, hz⟩ := I.tuple hs
    exact call_set_tupI ns (I.ok.hd calm) hl rv.ints b go
/-- sorted(found), of any size -/
theorem sort_set {P : Program} {w : World} {A : Around} {E : Value → Shared → Prop} {s : Shared} {a : Addr} {S : Int → Bool} {n : Nat} {Q : Value → Shared → Prop} (R : SetR w s.heap a S n) (calm : A.handled = none)
    (fin : ∀ u p (out : Array Value) (c : Nat) (ns : List Int), (∀ b o, s.heap.get? b = some o → u.heap.get? b = some o) → u.gens = s.gens ∧ u.os = s.os → s.heap.objs.size ≤ p → u.heap.get? p = some (seqObj "list" out c) → IntsAre out.toList ns → ns.Pairwise (· < ·) → (∀ k, k ∈ ns ↔ S k = true) → ns.length ≤ sizeLine → Q (.ref p) u) :
    wpAny (model P w) A (call (.builtin "sorted") [.ref a]) Q E s := by
  obtain ⟨o, es, ep, t, ho, ⟨cls, _⟩, dat, good, nd, mem, small, fits, _, ris, led⟩ := R
  refine Calls.call_function_entry kind_sorted plain_sorted entry_sorted (args_sorted1 _) ?_
  unfold Builtin.«sorted»
  refine wpAny_bind (m := checkCount "sorted" 1 1 _) (wpAny_pure (wpAny_bind (collect_set (A := A.in1) calm ⟨o, ho, cls, dat⟩ fits small ris led fun u vs ku hz gu ou pm => ?_)))
  have vl : vs.length ≤ sizeLine := by
    rw [pm.length_eq, List.length_map, Array.length_toList]
    exact Nat.le_trans (Nat.le_of_lt small) (by decide)
  have ar : IntsAre vs (vs.map Builtin.Re.reRawOf) := by
    refine ints_of vs fun v hv => ?_
    obtain ⟨e, he, q⟩ := List.mem_map.mp (pm.mem_iff.mp hv)
    obtain ⟨k, tk, h1, _⟩ := good e he
    exact ⟨k, tk, q ▸ h1⟩
  have pk : (vs.map Builtin.Re.reRawOf).Perm (es.toList.map L2.keyOf) := by
    have q := pm.map Builtin.Re.reRawOf
    rw [List.map_map] at q
    exact q
  refine wpAny_bind (wpAny_newList (?_ : _) vl)
  have hL : (u.heap.push (seqObj "list" vs.toArray 0)).get? u.heap.objs.size = some (seqObj "list" vs.toArray 0) := Heap.get?_push_size _ rfl
  refine wpAny_bind (wpAny_holding (wpAny_call_entry slot_list_sort ⟨_, hL, rfl⟩ entry_list_sort (list_sort_treeAny hL ar vl fun out ms a1 a2 a3 => ⟨_, rfl, ?_⟩) (args_list_sort _)))
  obtain ⟨c, hc⟩ := sortedHeap_at (vs := vs) (out := out) hL
  have pn := a2.trans pk
  refine wpAny_pure ⟨_, rfl, fin _ u.heap.objs.size out c ms (fun b x e => ?_) ⟨gu, ou⟩ hz hc a1 (lt_of_le_nodup ms a3 (pn.nodup_iff.mpr nd)) (fun k => by rw [pn.mem_iff, ← mem k]) (by rw [a2.length_eq, List.length_map]; exact vl)⟩
  have q := ku b x e
  have lt := Heap.lt_size q
  exact (sortedHeap_old (Nat.ne_of_lt lt) (by rw [size_push']; exact Nat.lt_succ_of_lt lt) : (sortedHeap (u.heap.push (seqObj "list" vs.toArray 0)) u.heap.objs.size vs out).get? b = (u.heap.push (seqObj "list" vs.toArray 0)).get? b).trans (Heap.get?_push_of_some _ q)
def rSortSet (w : World) : List V → Hp → VK → Prop := fun vs H Q => ∃ (a : Addr) (S : Int → Bool) (n : Nat), vs = [V.ref a] ∧ H a = some (SetO w a S n) ∧
  ∀ (ns : List Int) (p : Addr), ns.Pairwise (· < ·) → (∀ k : Int, k ∈ ns ↔ S k = true) → H p = none → Q (.ref p) (upd H p (.lst (ns.map V.int)))
theorem cr_sortSet (calm : X.calm = true) : CallR X (.builtin "sorted") (rSortSet X.w) := by
  intro pins s σ H vs us Q I r h
  obtain ⟨a, S, n, rfl, ha, q⟩ := h
  rw [Vals.ref1 r]
  refine sort_set (setO_get I ha) (I.ok.hd calm) fun u p out c ns k ⟨g, o⟩ hp hg hi hs hm hl => ?_
  have J : Inv X pins σ (upd H p (.lst (ns.map V.int))) { s with heap := u.heap, gens := u.gens, drawn := u.drawn, toks := u.toks } :=
    I.call (ch := []) (Un.laid k hp (I.hok.fresh hp)) (I.hok.laid k hp ⟨by rw [List.length_map]; exact hl, out.toList, c, vals_of_ints hi, hg⟩) (by rw [g]; exact I.bare) (fun _ z => nomatch z)
  have e : u = { s with heap := u.heap, gens := u.gens, drawn := u.drawn, toks := u.toks } := by
    cases u
    cases s
    cases o
    rfl
  rw [e]
  exact ⟨.ref p, _, J, rfl, q ns p hs hm (I.hok.fresh hp)⟩
end
/-! ### sets among the plain values -/
def fSet (ds : List D) (st : Sto) : Option (D × Sto) := match ds with
  | [d] => (look d st).bind fun es => (intsOf es).bind fun ns => if ns.length < 4000 then some (.set ns, st) else none
  | _ => none
def fInS (neg : Bool) (a b : D) (st : Sto) : Option (D × Sto) := match a, b with
  | .int k, .set ns => some (.bl (if neg then !decide (k ∈ ns) else decide (k ∈ ns)), st)
  | _, _ => none
def fSortS (ds : List D) (st : Sto) : Option (D × Sto) := match ds with
  | [.set ns] => some (.lst ((sU ns).map D.int), st)
  | _ => none
section
variable {C : Cy}
theorem ok_set : OkC C (rSetI C.K C.w) fSet := by
  intro H0 as st H ds vs d st' Q w r hf k
  unfold fSet at hf
  split at hf
  · obtain ⟨v, rfl, rv⟩ := reps1 r
    obtain ⟨es, he, hf⟩ := Option.bind_eq_some_iff.mp hf
    obtain ⟨ns, hn, hf⟩ := Option.bind_eq_some_iff.mp hf
    split at hf
    · rename_i few
      cases hf
      obtain ⟨a, us, rfl, hs, hr⟩ := look_seq w rv he
      rw [intsOf_eq hn] at hr
      rw [hr.ints] at hs
      refine ⟨a, ns, rfl, hs, few, fun q n hq hfr => ?_⟩
      obtain ⟨w', l⟩ := w.grow (o := SetO C.w q (fun k => decide (k ∈ ns)) n) hfr
      exact k (.ref q) _ as _ l w' ⟨q, _, n, rfl, upd_same, fun _ => rfl, Nat.le_trans hq (Nat.le_trans (Nat.le_of_lt few) (by decide))⟩
    · cases hf
  · cases hf
theorem ok_inS {neg : Bool} : Ok2 C (fun x y H Q => ∃ k a S n, x = V.int k ∧ y = V.ref a ∧ H a = some (SetO C.w a S n) ∧ Q (.bl (if neg then !S k else S k)) H) (fInS neg) := by
  intro H0 as st H dx dy x y d st' Q w rx ry hf k
  unfold fInS at hf
  split at hf
  · rename_i i ns
    cases hf
    cases (show x = .int i from rx)
    obtain ⟨a, S, n, rfl, ha, hS, hn⟩ := ry
    exact ⟨i, a, S, n, rfl, rfl, w.ex _ _ ha, k.val w (by rw [hS]; rfl)⟩
  · cases hf
theorem ok_sortS : OkC C (rSortSet C.w) fSortS := by
  intro H0 as st H ds vs d st' Q w r hf k
  unfold fSortS at hf
  split at hf
  · rename_i ns
    cases hf
    obtain ⟨v, rfl, rv⟩ := reps1 r
    obtain ⟨a, S, n, rfl, ha, hS, hn⟩ := rv
    refine ⟨a, S, n, rfl, w.ex _ _ ha, fun ms p h1 h2 hp => ?_⟩
    have e : ms = sU ns := lt_uniq h1 (sU_lt ns) fun k => by rw [h2, hS, mem_sU, decide_eq_true_eq]
    rw [e]
    exact k.newL w (Reps.of_ints _) p hp
  · cases hf
end
section
variable {X : Cx}
theorem c_set (hc : X.calm = true := by rfl) : CallR X (.type "set") (rSetI X.K X.w) ∧ OkC (cyOf X) (rSetI X.K X.w) fSet := ⟨cr_setI hc, ok_set⟩
theorem c_sortS (hc : X.calm = true := by rfl) : CallR X (.builtin "sorted") (rSortSet X.w) ∧ OkC (cyOf X) (rSortSet X.w) fSortS := ⟨cr_sortSet hc, ok_sortS⟩
theorem k_inS : OpR X (compareOp .In) (fun x y H Q => ∃ k a S n, x = V.int k ∧ y = V.ref a ∧ H a = some (SetO X.w a S n) ∧ Q (.bl (if false then !S k else S k)) H) ∧ Ok2 (cyOf X) (fun x y H Q => ∃ k a S n, x = V.int k ∧ y = V.ref a ∧ H a = some (SetO X.w a S n) ∧ Q (.bl (if false then !S k else S k)) H) (fInS false) := ⟨or_sin, ok_inS (neg := false)⟩
theorem k_niS : OpR X (compareOp .NotIn) (fun x y H Q => ∃ k a S n, x = V.int k ∧ y = V.ref a ∧ H a = some (SetO X.w a S n) ∧ Q (.bl (if true then !S k else S k)) H) ∧ Ok2 (cyOf X) (fun x y H Q => ∃ k a S n, x = V.int k ∧ y = V.ref a ∧ H a = some (SetO X.w a S n) ∧ Q (.bl (if true then !S k else S k)) H) (fInS true) := ⟨or_snotin, ok_inS (neg := true)⟩
end
end My


namespace My
open PySem PySem.Spec PyProof.Rows L2
/-! ### defs as values -/
abbrev MF := List D → Sto → Option (D × Sto)
def mCV (i : Nat) (fs : List (Str × MF)) (ma : MA) : ME := fun en st => match en[i]? with
  | some (some (.fn nm)) => (fs.lookup nm).bind fun g => (ma en st).bind fun p => g p.1 p.2
  | _ => none
section
variable {X : Cx} {k i : Nat} {x : Str} {p pos : Pos} {e : Expr} {es : List Expr} {ma : MA} {fs : List (Str × MF)} {f : Addr}
structure FnV (X : Cx) (k : Nat) (nm : Str) (g : MF) : Prop where
  ex : ∃ (j : Nat) (f : Addr) (fd : FuncData) (ps : List Str), j ≤ k ∧ PySem.W.nsIn X.K mainGlobals nm = some (some (.ref f)) ∧ FnOk X.prog X.w X.K X.mg X.base CX0 j f fd ps (spM (cyOf X) g) ∧ PySem.W.keepIn X.K (.ref f) = true ∧ Binds X.K fd ps []
theorem x_fn (hg : Gl X x) (hm : X.mg x = some (.ref f)) (hn : PySem.W.nsIn X.K mainGlobals x = some (some (.ref f))) (hd : (x == ("__debug__" : Str)) = false := by decide) : PE X (.Name x pos) (eM (cyOf X) (mC (.fn x))) :=
  PE.imp (pe_glob hg hm (v := .ref f) rfl hd) fun _ _ _ => em_c fun _ _ => ⟨f, rfl, hn⟩
theorem fv_nil : ∀ nm g, ([] : List (Str × MF)).lookup nm = some g → FnV X k nm g := fun _ _ h => by cases h
theorem fv_cons {nm : Str} {g : MF} (h : FnV X k nm g) (t : ∀ nm g, fs.lookup nm = some g → FnV X k nm g) : ∀ nm' g', ((nm, g) :: fs).lookup nm' = some g' → FnV X k nm' g' := fun nm' g' e => by
  rw [List.lookup_cons] at e
  split at e
  · rename_i h2
    have e2 : nm' = nm := by simpa using h2
    cases e
    rw [e2]
    exact h
  · exact t _ _ e
theorem x_callV (F : ∀ nm g, fs.lookup nm = some g → FnV X k nm g) (hr : Room k X.A) (hN : X.N[i]? = some x) (hv : Vis X.env.scope x) (ha : PA X (e :: es) (aM (cyOf X) ma))
    (hdb : (x == ("__debug__" : Str)) = false := by decide) (hcd : (x == ("__classdict__" : Str)) = false := by decide)
    (he : starEach (e :: es) X.env = (false, eval e X.env) :: starEach es X.env := by rfl) (hpl : (backTo pos (starEach es X.env)).any (·.1) = false := by rfl) : PE X (.Call (.Name x p) (e :: es) [] pos) (eM (cyOf X) (mCV i fs ma)) := by
  refine ⟨fun pins s σ H Q I h => ?_⟩
  obtain ⟨H0, as, en, st, d, st', er, w, hm, kq⟩ := h
  unfold mCV at hm
  split at hm
  · rename_i nm hnm
    obtain ⟨g, hg, hm⟩ := Option.bind_eq_some_iff.mp hm
    obtain ⟨⟨da, s1⟩, h1, hm⟩ := Option.bind_eq_some_iff.mp hm
    obtain ⟨j, f, fd, ps, hj, hf, G, hk, hb⟩ := (F nm g hg).ex
    obtain ⟨v, hs, rv⟩ := er.at_ i _ hnm
    obtain ⟨a, rfl, ha'⟩ := rv
    have ef : a = f := by
      have z := ha'.symm.trans hf
      cases z
      rfl
    subst ef
    refine (pe_callL (i := i) (f := a) (sp := spM (cyOf X) g) (dvs := []) G (hr.mono hj) hN hv hk hb .nil pass0 ha hdb hcd he hpl).run pins s σ H Q I ⟨hs, H0, as, en, st, da, s1, er, w, h1, fun vs H1 as1 H1' l1 w1 r1 => ?_⟩
    exact ⟨H1, as1, da, s1, d, st', by rw [List.append_nil]; exact r1, w1, hm, kq.mono l1⟩
  · cases hm
end
end My


namespace My
open PySem PySem.Spec PyProof.Rows L2
/-! ### {k: v, ..} with constant keys -/
def mergeD (kvs more : List (Key × D)) : List (Key × D) := more.foldl (fun acc kv => putD acc kv.1 kv.2) kvs
def mPs : List (Key × ME) → MA
  | [] => mNil
  | (_, m) :: r => mCons m (mPs r)
def mDisp (kms : List (Key × ME)) : ME := fun en st => (mPs kms en (st ++ [.dK []])).bind fun p => match p.2[st.length]? with
  | some (.dK []) => some (.loc st.length, p.2.set st.length (.dK (mergeD [] ((kms.map (·.1)).zip p.1))))
  | _ => none
section
variable {C : Cy}
theorem RepKV.merge {H : Hb} {as : List Addr} : ∀ {more : List (Key × D)} {ms : List (Key × V)} {kvs : List (Key × D)} {vs : List (Key × V)}, RepKV C H as more ms → RepKV C H as kvs vs → RepKV C H as (mergeD kvs more) (mergeK vs ms)
  | [], _, _, _, h, r => by
    cases (show _ = [] from h)
    exact r
  | (k, d) :: more, _, _, _, ⟨v, ms, e, h1, h2⟩, r => by
    subst e
    have z := RepKV.merge (more := more) (ms := ms) h2 (r.put k h1)
    exact z
theorem keyD_rep {H : Hb} {as : List Addr} (k : Key) : Rep C H as (keyD k) (kV k) := by
  cases k <;> rfl
theorem tp_ok {σ : L2.St} : ∀ {kms : List (Key × ME)} {H0 : Hb} {as : List Addr} {en : En} {st st' : Sto} {ds : List D} {H : Hp} {Q : List (V × V) → Hp → Prop}, EnR C H0 as en σ → WR C H0 as st H → mPs kms en st = some (ds, st') →
    (∀ vs H1 as1 H', Le H0 as H1 as1 → WR C H1 as1 st' H' → Reps C H1 as1 ds vs → vs.length = kms.length → Q (((kms.map (·.1)).zip vs).map fun kv => (kV kv.1, kv.2)) H') →
    tPairs (kms.map fun p => (eM C (mC (keyD p.1)), eM C p.2)) σ H Q
  | [], H0, as, en, st, st', ds, H, Q, e, w, h, k => by
    cases h
    exact k [] H0 as H Le.refl w rfl rfl
  | (key, m) :: r, H0, as, en, st, st', ds, H, Q, e, w, h, k => by
    unfold mPs mCons at h
    obtain ⟨⟨d1, s1⟩, h1, h⟩ := Option.bind_eq_some_iff.mp h
    obtain ⟨⟨d2, s2⟩, h2, h⟩ := Option.bind_eq_some_iff.mp h
    cases h
    refine ⟨H0, as, en, st, keyD key, st, e, w, rfl, fun x H1 as1 H1' l1 w1 r1 => ?_⟩
    have ex : x = kV key := by
      cases key
      · exact r1
      · exact r1
    subst ex
    refine ⟨H1, as1, en, st, d1, s1, e.mono l1, w1, h1, fun y H2 as2 H2' l2 w2 r2 => ?_⟩
    refine tp_ok (e.mono (l1.trans l2)) w2 h2 fun vs H3 as3 H3' l3 w3 r3 hl => ?_
    have q := k (y :: vs) H3 as3 H3' ((l1.trans l2).trans l3) w3 ⟨y, vs, rfl, r2.mono l3, r3⟩ (by rw [List.length_cons, List.length_cons, hl])
    exact q
theorem em_disp {σ : L2.St} {H : Hp} {Q : VK} {kms : List (Key × ME)} (h15 : kms.length ≤ 15) : eM C (mDisp kms) σ H Q → tDisp (kms.map fun p => (eM C (mC (keyD p.1)), eM C p.2)) σ H Q := by
  rintro ⟨H0, as, en, st, d, st', e, w, hm, k⟩
  intro p hp
  obtain ⟨w', l⟩ := w.push (o := .dK []) hp ⟨[], rfl, rfl⟩
  unfold mDisp at hm
  obtain ⟨⟨ds, s1⟩, h1, hm⟩ := Option.bind_eq_some_iff.mp hm
  dsimp only at hm
  split at hm
  · rename_i hd
    cases hm
    refine tp_ok (e.mono l) w' h1 fun vs H1 as1 H' l1 w1 r1 hl => ?_
    obtain ⟨a, us, ha, hn, hH, hr⟩ := w1.dk hd
    have ep : a = p := by
      have z : (as ++ [p])[st.length]? = some p := by rw [← w.len]; simp
      have z2 := pre_get l1.pre z
      rw [ha] at z2
      cases z2
      rfl
    subst ep
    cases (show us = [] from hr)
    have rz : RepKV C H1 as1 (mergeD [] ((kms.map (·.1)).zip ds)) (mergeK [] ((kms.map (·.1)).zip vs)) := RepKV.merge (RepKV.zip r1) rfl
    refine ⟨hH, (kms.map (·.1)).zip vs, rfl, by rw [List.length_zip, List.length_map]; omega, ?_⟩
    exact k (.ref a) H1 as1 _ (l.trans l1) (w1.put ha hn ⟨_, rfl, rz⟩) ⟨a, ha, rfl⟩
  · cases hm
/-- not e, by truth -/
def mNotT (a : ME) : ME := fun en st => (mT a en st).map fun p => (.bl (!p.1), p.2)
theorem em_notT {σ : L2.St} {H : Hp} {Q : VK} {ma : ME} : eM C (mNotT ma) σ H Q → tNotT C.K (eM C ma) σ H Q := by
  rintro ⟨H0, as, en, st, d, st', e, w, hm, k⟩
  unfold mNotT at hm
  obtain ⟨⟨b, s1⟩, h1, hm⟩ := Option.map_eq_some_iff.mp hm
  cases hm
  exact bm_tru ⟨H0, as, en, st, b, s1, e, w, h1, fun H1 as1 H1' l1 w1 => k _ H1 as1 H1' l1 w1 rfl⟩
end
section
variable {X : Cx} {e a : Expr} {pos : Pos} {ma : ME}
theorem x_notT (ha : PE X a (eM (cyOf X) ma)) : PE X (.UnaryOp .Not a pos) (eM (cyOf X) (mNotT ma)) := PE.imp (pe_notT ha) fun _ _ _ => em_notT
theorem pp_nil : PPs X pos [] [] (([] : List (Key × ME)).map fun p => (eM (cyOf X) (mC (keyD p.1)), eM (cyOf X) p.2)) := pps_nil
theorem pp_str {kx : Str} {j} {p : Pos} {v : Expr} {ks : List (Option Expr)} {vs : List Expr} {kms : List (Key × ME)} (hv : PE X v (eM (cyOf X) ma)) (hr : PPs X pos ks vs (kms.map fun p => (eM (cyOf X) (mC (keyD p.1)), eM (cyOf X) p.2))) :
    PPs X pos (some (.Constant (.str kx) j p) :: ks) (v :: vs) (((.inr kx, ma) :: kms).map fun p => (eM (cyOf X) (mC (keyD p.1)), eM (cyOf X) p.2)) := pps_cons (PE.imp pe_str fun _ _ _ => em_c fun _ _ => rfl) hv hr
theorem x_disp {keys : List (Option Expr)} {values : List Expr} {kms : List (Key × ME)} (h : PPs X pos keys values (kms.map fun p => (eM (cyOf X) (mC (keyD p.1)), eM (cyOf X) p.2))) (h15 : kms.length ≤ 15) (hall : keys.all (·.isSome) = true := by rfl) (hl : keys.length = values.length := by rfl) (h0 : keys ≠ [] := by simp) (hk : keys.length ≤ 15 := by decide) : PE X (.Dict keys values pos) (eM (cyOf X) (mDisp kms)) :=
  PE.imp (pe_disp h hall hl h0 hk) fun _ _ _ => em_disp h15
end
/-! ### what the module holds -/
def KRep (K : PySem.W.Frag) (d : D) (u : Value) : Prop := ∃ v, RelV v u ∧ ∀ (C : Cy) (H : Hb) (as : List Addr), C.K = K → Rep C H as d v
def KReps (K : PySem.W.Frag) (ds : List D) (us : List Value) : Prop := ∃ vs, Vals vs us ∧ ∀ (C : Cy) (H : Hb) (as : List Addr), C.K = K → Reps C H as ds vs
section
variable {K : PySem.W.Frag}
theorem kr_int {i : Int} {t : Tok} : KRep K (.int i) (.int i t) := ⟨.int i, ⟨t, rfl⟩, fun _ _ _ _ => rfl⟩
theorem kr_str {x : Str} {t : Tok} : KRep K (.str x) (.str x t) := ⟨.str x, ⟨t, rfl⟩, fun _ _ _ _ => rfl⟩
theorem krs_nil : KReps K [] [] := ⟨[], .nil, fun _ _ _ _ => rfl⟩
theorem krs_cons {d : D} {u : Value} {ds : List D} {us : List Value} (h : KRep K d u) (t : KReps K ds us) : KReps K (d :: ds) (u :: us) := by
  obtain ⟨v, r, h⟩ := h
  obtain ⟨vs, rs, t⟩ := t
  exact ⟨v :: vs, .cons r rs, fun C H as e => ⟨v, vs, rfl, h C H as e, t C H as e⟩⟩
theorem kr_tup {a : Addr} {od : Option Addr} {its : List Value} {n : Nat} {sl : Array (Option Value)} {ds : List D} (l : K.lookup a = some ⟨.type "tuple", od, .seq its.toArray n, sl⟩) (hz : its.length < 100) (h : KReps K ds its) : KRep K (.tup ds) (.ref a) := by
  obtain ⟨vs, rs, h⟩ := h
  exact ⟨.ref a, rfl, fun C H as e => ⟨a, vs, rfl, .inr ⟨_, its.toArray, n, by rw [e]; exact l, rfl, rfl, Nat.le_trans (Nat.le_of_lt (by simpa using hz)) (by decide), by simpa using rs⟩, h C H as e⟩⟩
def GConst (K : PySem.W.Frag) (mg : Str → Option Value) (x : Str) (d : D) : Prop := ∃ u, mg x = some u ∧ KRep K d u
theorem x_gc {X : Cx} {x : Str} {d : D} {pos : Pos} (h : GConst X.K X.mg x d) (hg : Gl X x) (hd : (x == ("__debug__" : Str)) = false := by decide) : PE X (.Name x pos) (eM (cyOf X) (mC d)) := by
  obtain ⟨u, hm, v, r, h⟩ := h
  exact PE.imp (pe_glob hg hm (v := v) r hd) fun _ _ _ => em_c fun H as => h _ H as rfl
end
end My


namespace My
open PySem PySem.Spec PyProof.Rows L2
/-! ### xs[a:] = ys -/
section
variable {P : Program} {w : World} {A : Around} {E : Value → Shared → Prop} {s : Shared}
theorem bounds_tail {a n : Nat} (h : a ≤ n) : sliceBounds (some (a : Int)) none none n = ((a : Int), (n : Int), 1) := by
  simp only [sliceBounds, Option.getD_none]
  have z : ¬ ((a : Int) < 0) := by omega
  simp only [z, if_false, show (1 : Int) > 0 by decide, if_true]
  congr 1
  omega
set_option maxRecDepth 100000 in
theorem set_tail {l b sl : Addr} {xs ys : Array Value} {n m : Nat} {vl : Value} {a : Nat} {Q : Unit → Shared → Prop} (hl : s.heap.get? l = some { cls := .type "list", data := .seq xs n }) (hb : s.heap.get? b = some { cls := .type "list", data := .seq ys m }) (ne : l ≠ b)
    (hs : s.heap.IsSliceOf sl vl .none .none) (pl : IsPart vl (some (a : Int))) (ha : a ≤ xs.size) (hz : xs.size + ys.size ≤ sizeLine) (q : Q () { s with heap := s.heap.update l (Obj.mapSeq fun zs => zs.extract 0 a ++ ys ++ zs.extract xs.size zs.size) }) :
    wpAny (model P w) A (setItem (.ref l) (.ref sl) (.ref b)) Q E s := by
  have il : s.heap.IsList l xs := PySem.IsL.isList hl
  have ib : s.heap.IsList b ys := PySem.IsL.isList hb
  obtain ⟨o, ho, oc, od⟩ := id hs
  have ts : s.TypeIs (.ref sl) "slice" := ⟨o, ho, oc⟩
  have nstep : ¬ ((rawPart none == rawInt 0) = true) := Bool.false_ne_true
  have nsame : Builtin.List.listSameRef (.ref l) (.ref b) = false := beq_eq_false_iff_ne.mpr ne
  have mx : (max (a : Int) (xs.size : Int)).toNat = xs.size := by omega
  have fits : ((fun zs : Array Value => zs.extract 0 a ++ ys ++ zs.extract xs.size zs.size) xs).size ≤ sizeLine + 1 := by
    simp only [Array.size_append, Array.size_extract]
    omega
  unfold setItem
  try with_reducible refine wpAny_holding ?_
  first | refine wpAny_bind (wpAny_pure ?_) | skip
  refine wpAny_bind (wpAny_sequenceKey il.typeIs (by decide) (wpAny_bind (wpAny_callSpecial?_slot (name := Str.ofString "__setitem__") il.typeIs slot_list_setitem (wpAny_call_entry slot_list_setitem il.typeIs entry_list_setitem (?_ : _) (args_list_setitem _ _ _)))))
  show wpAny _ _ (Builtin.List.listSubscript? (.ref sl) >>= _) _ _ s
  refine wpAny_bind (?_ : _)
  unfold Builtin.List.listSubscript?
  refine wpAny_bind (wpAny_specialOf ts slice_no_index (?_ : _))
  simp only [Option.isNone_none, if_true]
  refine wpAny_pure (?_ : wpAny _ _ (typeOf (.ref sl) >>= _) _ _ s)
  refine wpAny_bind (wpAny_typeOf ts (?_ : _))
  first
    | rw [if_neg (by decide)]
    | exact PySem.W.KFB.if_not (by decide) ?_
  rw [listSliceParts_eq]
  refine wpAny_bind (wpAny_bind (wpAny_field ho od (x := .none) rfl (wpAny_bind (wpAny_listPart .none (?_ : _)))))
  rw [if_neg nstep]
  refine wpAny_bind (wpAny_field ho od (x := vl) rfl (wpAny_bind (wpAny_listPart pl (wpAny_bind (wpAny_field ho od (x := .none) rfl (wpAny_bind (wpAny_listPart .none (wpAny_pure (?_ : _)))))))))
  first
    | simp only [nsame, Bool.false_eq_true, if_false]
    | (dsimp only; rw [if_neg (by rw [nsame]; exact Bool.false_ne_true)])
  refine wpAny_bind (m := Builtin.List.listAllItems (.ref b) "must assign iterable to extended slice") (?_ : _)
  unfold Builtin.List.listAllItems
  refine wpAny_bind (wpAny_typeOf ib.typeIs (?_ : _))
  first
    | rw [if_pos (by decide)]
    | simp only [beq_self_eq_true, Bool.true_or, if_true]
  unfold Builtin.List.listItems
  refine wpAny_bind (wpAny_seqItems hb rfl (wpAny_pure (wpAny_bind (wpAny_bind (wpAny_seqItems hl rfl (wpAny_pure (?_ : _)))))))
  refine wpAny_bind (wpAny_of_eq ((sliceIndices_raw (some (a : Int)) none none xs.size (by simp)).trans (congrArg (pure : Int × Int × Int → Sem (Int × Int × Int)) (bounds_tail ha))) (?_ : wpAny _ _ (if ((1 : Int) == 1) = true then _ else _) _ _ s))
  rw [if_pos (by decide)]
  refine wpAny_bind (wpAny_rule (?_ : _))
  simp only [notLongL hz, Bool.false_eq_true, if_false]
  first | refine wpAny_bind (wpAny_pure ?_) | skip
  show wpAny _ _ (updateSeq l (fun zs => zs.extract 0 ((a : Int)).toNat ++ ys ++ zs.extract (max (a : Int) (xs.size : Int)).toNat zs.size) >>= _) _ _ s
  rw [mx, Int.toNat_natCast]
  refine wpAny_bind (wpAny_updateSeq (hz := Nat.le_trans (Nat.le_add_right _ _) hz) (_hz' := fits) hl rfl (wpAny_bind (wpAny_letGo (?_ : _))))
  first
    | exact wpAny_bind (wpAny_pure (wpAny_pure ⟨.none, rfl, wpAny_pure q⟩))
    | exact wpAny_pure ⟨.none, rfl, wpAny_pure q⟩
end
section
variable {X : Cx}
/-- xs[a:] = ys as a target -/
def gTail (to : TE) (tl : TO) : TG := fun x σ H Q => to σ H fun v H1 => tl σ H1 fun k H2 => ∃ (l b : Addr) (xs ys : List V) (a : Nat), v = .ref l ∧ x = .ref b ∧ k = some (a : Int) ∧ H2 l = some (.lst xs) ∧ H2 b = some (.lst ys) ∧ l ≠ b ∧ a ≤ xs.length ∧ xs.length + ys.length ≤ sizeLine ∧ Q σ (upd H2 l (.lst (xs.take a ++ ys)))
theorem pg_tail {o : Expr} {lo : Option Expr} {p2 pos : Pos} {to : TE} {tl : TO} (ho : PE X o to) (hl : PO X lo tl)
    (ha : ∀ v, assign (.Subscript o (.Slice lo none none p2) pos) X.env v = (do
      let ov ← holding [v] (eval o X.env)
      let iv ← holding [v, ov] (eval (.Slice lo none none p2) X.env)
      standAt pos
      holding [v, ov, iv] (setItem ov iv v)
      release [iv, v, ov] []) := by intro _; rfl) : PG X (.Subscript o (.Slice lo none none p2) pos) (gTail to tl) := by
  refine ⟨fun pins s σ H v u Q I r h => ?_⟩
  rw [ha]
  refine wpAny_bind (wpAny_holding (thn (ho.run pins s σ H _ I h) fun ov s1 ⟨x, H1, I1, r1, q1⟩ => wpAny_bind (wpAny_holding (?_ : _))))
  refine wpAny_Slice (thn (hl.run pins s1 σ H1 _ I1 q1) fun vl s2 ⟨k, H2, I2, pl, q2⟩ => ?_)
  rw [evalPart_none]
  refine wpAny_pure (?_ : _)
  refine wpAny_pure (?_ : _)
  obtain ⟨l, b, xs, ys, a, rfl, rfl, rfl, hL, hB, ne, hle, hz, q⟩ := q2
  cases r1
  cases r
  have I3 : Inv X pins σ H2 { s2 with heap := s2.heap.push { cls := .type "slice", data := .fields #[vl, .none, .none] } } := I2.kept (t' := s2.toks) fun b ob q => Heap.get?_push_of_some _ q
  obtain ⟨z1, its, n1, rv1, e0, e1⟩ := I3.lstM hL
  obtain ⟨z2, its2, n2, rv2, e3, e2⟩ := I3.lstM hB
  have sz1 : its.toArray.size = xs.length := by rw [List.size_toArray, rv1.length]
  have sz2 : its2.toArray.size = ys.length := by rw [List.size_toArray, rv2.length]
  refine wpAny_bind (wpAny_standAt (wpAny_bind (wpAny_holding (set_tail e1 e2 ne (Heap.IsSliceOf.new ..) pl (by rw [sz1]; exact hle) (by rw [sz1, sz2]; exact hz) (?_ : _)))))
  have I4 := I3.lset (its' := its.take a ++ its2) (t' := s2.toks) (f := fun zs => zs.extract 0 a ++ its2.toArray ++ zs.extract its.toArray.size zs.size) hL e1 (by
    have e := splice_eq its its2 a its.toArray.size
    rw [e, show its.drop its.toArray.size = [] from List.drop_eq_nil_iff.mpr (by simp), List.append_nil]) (Vals.append (rv1.take a) rv2) (by
    rw [List.length_append, List.length_take]
    omega)
  exact wpAny_release ⟨σ, _, I4, q⟩
end
def fSetT (a : D) (lo : Option Int) (c : D) (st : Sto) : Option Sto := match a, lo, c with
  | .loc n, some k, .lst ds => match st[n]? with
    | some (.lst es) => if 0 ≤ k ∧ k.toNat ≤ es.length ∧ es.length + ds.length ≤ sizeLine then some (st.set n (.lst (es.take k.toNat ++ ds))) else none
    | _ => none
  | _, _, _ => none
def mgTail (a : ME) (b : MO) : MG := fun d en st => (a en st).bind fun p => (b en p.2).bind fun q => (fSetT p.1 q.1 d q.2).map fun s => (en, s)
theorem ok_setT {C : Cy} {H0 : Hb} {as : List Addr} {st st' : Sto} {H : Hp} {a c : D} {lo : Option Int} {x z : V} {σ : L2.St} {Q : L2.St → Hp → Prop} (w : WR C H0 as st H) (rx : Rep C H0 as a x) (rz : Rep C H0 as c z) (hf : fSetT a lo c st = some st') (k : ∀ H', WR C H0 as st' H' → Q σ H') :
    ∃ (l b : Addr) (xs ys : List V) (a : Nat), x = .ref l ∧ z = .ref b ∧ lo = some (a : Int) ∧ H l = some (.lst xs) ∧ H b = some (.lst ys) ∧ l ≠ b ∧ a ≤ xs.length ∧ xs.length + ys.length ≤ sizeLine ∧ Q σ (upd H l (.lst (xs.take a ++ ys))) := by
  unfold fSetT at hf
  split at hf
  · rename_i n j ds
    split at hf
    · rename_i es he
      split at hf
      · rename_i hc
        cases hf
        obtain ⟨a', us, ha', hn, h1, hr⟩ := w.loc he
        obtain ⟨a'', ha'', rfl⟩ := rx
        rw [ha'] at ha''
        cases ha''
        obtain ⟨b', vs, rfl, hs', hr'⟩ := rz
        have hr2 : Reps C H0 as (es.take j.toNat ++ ds) (us.take j.toNat ++ vs) := Reps.append (Reps.take j.toNat hr) hr'
        refine ⟨a', b', us, vs, j.toNat, rfl, rfl, by rw [show ((j.toNat : Nat) : Int) = j by omega], h1, w.ex _ _ hs', ?_, by rw [← hr.length]; exact hc.2.1, by rw [← hr.length, ← hr'.length]; exact hc.2.2, k _ (w.put ha' hn ⟨_, rfl, hr2⟩)⟩
        intro e
        subst e
        rw [hn] at hs'
        cases hs'
      · cases hf
    · cases hf
  · cases hf
theorem gm_tail {C : Cy} {σ : L2.St} {H : Hp} {v : V} {Q : L2.St → Hp → Prop} {a : ME} {b : MO} : gM C (mgTail a b) v σ H Q → gTail (eM C a) (oM C b) v σ H Q := by
  rintro ⟨H0, as, en, st, d, en', st', e, w, r, hs, k⟩
  unfold mgTail at hs
  obtain ⟨⟨da, s1⟩, ha, hs⟩ := Option.bind_eq_some_iff.mp hs
  obtain ⟨⟨db, s2⟩, hb, hs⟩ := Option.bind_eq_some_iff.mp hs
  obtain ⟨s3, h3, e3⟩ := Option.map_eq_some_iff.mp hs
  cases e3
  refine ⟨H0, as, en, st, da, s1, e, w, ha, fun x H1 as1 H1' l1 w1 r1 => ?_⟩
  refine ⟨H1, as1, en, s1, db, s2, e.mono l1, w1, hb, fun H2 as2 H2' l2 w2 => ?_⟩
  exact ok_setT w2 (r1.mono l2) (r.mono (l1.trans l2)) h3 fun H' w' => k σ H2 as2 H' (l1.trans l2) w' (e.mono (l1.trans l2))
theorem g_tail {X : Cx} {o : Expr} {lo : Option Expr} {p2 pos : Pos} {ma : ME} {ml : MO} (ho : PE X o (eM (cyOf X) ma)) (hl : PO X lo (oM (cyOf X) ml))
    (ha : ∀ v, assign (.Subscript o (.Slice lo none none p2) pos) X.env v = (do
      let ov ← holding [v] (eval o X.env)
      let iv ← holding [v, ov] (eval (.Slice lo none none p2) X.env)
      standAt pos
      holding [v, ov, iv] (setItem ov iv v)
      release [iv, v, ov] []) := by intro _; rfl) : PG X (.Subscript o (.Slice lo none none p2) pos) (gM (cyOf X) (mgTail ma ml)) := PG.imp (pg_tail ho hl ha) fun _ _ _ _ => gm_tail
/-! ### insert -/
def fInsert (a : D) (ds : List D) (st : Sto) : Option (D × Sto) := match a, ds with
  | .loc n, [.int i, d] => match st[n]? with
    | some (.lst es) => if es.length < sizeLine ∧ 0 ≤ i ∧ i < 2 ^ 63 then some (.non, st.set n (.lst (es.take i.toNat ++ [d] ++ es.drop i.toNat))) else none
    | _ => none
  | _, _ => none
def rInsert : V → List V → Hp → VK → Prop := fun x vs H Q => ∃ (l : Addr) (xs : List V) (i : Int) (y : V), x = .ref l ∧ vs = [.int i, y] ∧ H l = some (.lst xs) ∧ xs.length < sizeLine ∧ 0 ≤ i ∧ i < 2 ^ 63 ∧ Q .non (upd H l (.lst (xs.take i.toNat ++ [y] ++ xs.drop i.toNat)))
theorem ok_insert {C : Cy} : OkM C rInsert fInsert := by
  intro H0 as st H dx ds x vs d st' Q w rx rs hf k
  unfold fInsert at hf
  split at hf
  · split at hf
    · rename_i he
      split at hf
      · rename_i hl
        cases hf
        obtain ⟨v1, r1, rfl, e1, rs⟩ := rs
        obtain ⟨v2, r2, rfl, e2, rs⟩ := rs
        cases (show r2 = [] from rs)
        cases (show v1 = .int _ from e1)
        obtain ⟨a, us, ha, hn, h1, hr⟩ := w.loc he
        obtain ⟨a', ha', rfl⟩ := rx
        rw [ha] at ha'
        cases ha'
        refine ⟨a, us, _, v2, rfl, rfl, h1, by rw [← hr.length]; exact hl.1, hl.2.1, hl.2.2, k.put w ha hn ⟨_, rfl, ?_⟩ rfl⟩
        exact Reps.append (Reps.append (Reps.take _ hr) (Reps.one e2)) (Reps.drop _ hr)
      · cases hf
    · cases hf
  · cases hf
section
variable {X : Cx}
theorem x_insert {apos cpos : Pos} {o e f : Expr} {mo : ME} {mr : MA} (ho : PE X o (eM (cyOf X) mo)) (ha : PA X [e, f] (aM (cyOf X) mr)) (hbase : attributeBase o "insert" X.env (eval o X.env) = eval o X.env := by rfl)
    (hfew : ((backTo cpos (starEach [e, f] X.env)).all (fun x => !x.1) && (backToKw cpos (keywordEach [] X.env)).all (fun x => x.1.isSome) && decide ([e, f].length + ([] : List Keyword).length + (if ([] : List Keyword).isEmpty then 0 else 1) < 30)) = true := by rfl)
    (hline : (apos.endLine == cpos.line) = true := by rfl) (hs : starEach [e, f] X.env = (false, eval e X.env) :: starEach [f] X.env := by rfl) (hplain : (backTo cpos (starEach [f] X.env)).any (·.1) = false := by rfl) :
    PE X (.Call (.Attribute o "insert" apos) [e, f] [] cpos) (eM (cyOf X) (mMt fInsert mo mr)) := PE.imp (pe_bm PySem.F.plainAttrs_list PySem.F.slot_list_insert PySem.F.type_list_insert mt_insert ho ha hbase hfew hline hs hplain) fun _ _ _ => em_mt ok_insert
end
/-! ### tuple(range(n)) -/
def mTupR (m : ME) : ME := fun en st => (m en st).bind fun p => match p.1 with
  | .int n => if 0 ≤ n ∧ n ≤ 16777216 then some (.tup (rngD 0 n.toNat), p.2) else none
  | _ => none
theorem rgV_ints (n : Int) : rgV 0 n = (rngI 0 n.toNat).map V.int := by
  unfold rgV rngI
  rw [List.map_map, Int.sub_zero]
  rfl
theorem em_tupR {C : Cy} {σ : L2.St} {H : Hp} {Q : VK} {m : ME} : eM C (mTupR m) σ H Q → tTupRg (tRg1 (eM C m)) σ H Q := by
  rintro ⟨H0, as, en, st, d, st', e, w, hm, k⟩
  unfold mTupR at hm
  obtain ⟨⟨d1, s1⟩, h1, hm⟩ := Option.bind_eq_some_iff.mp hm
  dsimp only at hm
  split at hm
  · rename_i n
    split at hm
    · rename_i hn
      cases hm
      refine ⟨H0, as, en, st, .int n, _, e, w, h1, fun x H1 as1 H1' l1 w1 r1 => ?_⟩
      cases (show x = .int n from r1)
      refine ⟨n, rfl, RgOk.of_le (by decide) hn.2 (by decide) hn.1, ?_⟩
      rw [rgV_ints]
      have q := (k.mono l1).newT w1 (vs := (rngI 0 n.toNat).map V.int) (by rw [rngD_eq]; exact Reps.of_ints _)
      exact q
    · cases hm
  · cases hm
theorem x_tupR {X : Cx} {p q r pos : Pos} {a : Expr} {m : ME} (hc : X.calm = true) (hg : Gl X "tuple") (hm : X.mg "tuple" = none) (hg2 : Gl X "range") (hm2 : X.mg "range" = none) (ha : PE X a (eM (cyOf X) m))
    (na : starEach [a] X.env = (false, eval a X.env) :: starEach [] X.env := by rfl) (nb : starEach [.Call (.Name "range" r) [a] [] q] X.env = (false, eval (.Call (.Name "range" r) [a] [] q) X.env) :: starEach [] X.env := by rfl) :
    PE X (.Call (.Name "tuple" p) [.Call (.Name "range" r) [a] [] q] [] pos) (eM (cyOf X) (mTupR m)) := PE.imp (pe_tupRg hc hg hm (prg_1 hg2 hm2 ha na) nb) fun _ _ _ => em_tupR
end My


namespace My
open PySem PySem.Spec PyProof.Rows L2
/-! ### sorted of data of any depth, any number of them -/
section
variable {X : Cx} {C : Cy}
def rSortD (K : PySem.W.Frag) : List V → Hp → VK → Prop := fun vs H Q => ∃ (a : Addr) (ps : List (PyData × V)), vs = [V.ref a] ∧ SqL K H a (ps.map (·.2)) ∧ (∀ p ∈ ps, Dp K H p.2 p.1) ∧ PySem.W.AllAlike (ps.map (·.1)) ∧ PySem.W.Sortable (ps.map (·.1)) ∧ (∀ p ∈ ps, p.1.depth ≤ 60) ∧
  ∀ p, H p = none → Q (.ref p) (upd H p (.lst ((ps.mergeSort (PySem.W.dataLe false (·.1))).map (·.2))))
theorem each_relv : ∀ {ps : List (PyData × V)} {us : List Value}, Vals (ps.map (·.2)) us → PySem.W.EachIs (fun u p => RelV p.2 u) us ps
  | [], _, h => by cases h; exact .nil
  | p :: ps, _, h => by
    cases h with
    | cons r t => exact .cons r (each_relv t)
theorem relv_each : ∀ {ps : List (PyData × V)} {us : List Value}, PySem.W.EachIs (fun u p => RelV p.2 u) us ps → Vals (ps.map (·.2)) us
  | [], _, h => by cases h; exact .nil
  | p :: ps, _, h => by
    cases h with
    | cons r t => exact .cons r (relv_each t)
theorem each_reads {pins : List (Addr × Obj)} {σ : L2.St} {H : Hp} {s : Shared} (I : Inv X pins σ H s) : ∀ {ps : List (PyData × V)} {us : List Value}, (∀ p ∈ ps, Dp X.K H p.2 p.1) → Vals (ps.map (·.2)) us → PySem.W.EachIs (fun u p => ∃ as, PySem.Reads s.heap u p.1 as) us ps
  | [], _, _, h => by cases h; exact .nil
  | p :: ps, _, d, h => by
    cases h with
    | cons r t => exact .cons (Dp.reads I _ _ _ (d p List.mem_cons_self) r) (each_reads I (fun q m => d q (List.mem_cons_of_mem _ m)) t)
theorem cr_sortD {k : Nat} (hr : Room k X.A) : CallR X (.builtin "sorted") (rSortD X.K) := by
  intro pins s σ H vs us Q I r h
  obtain ⟨a, ps, rfl, hs, hd, hal, hk, hu, q⟩ := h
  obtain ⟨its, rv, hl, hz⟩ := I.list hs
  rw [Vals.ref1 r]
  have hun := hr.un
  have hL : ps.length ≤ sizeLine := by rw [List.length_map] at hz; exact hz
  refine PySem.W.sorted_data (enc := fun p : PyData × V => p.1) hl.isList (each_relv rv) (each_reads I hd rv) hal hk hL (fun b hb => by have := hu b hb; omega) fun out hlen ho => ?_
  obtain ⟨ep, he'⟩ := PyProof.Rows.sortedAll_at s.heap its out.toArray
  have hlen2 : ((ps.mergeSort (PySem.W.dataLe false (·.1))).map (·.2)).length ≤ sizeLine := by rw [List.length_map, List.length_mergeSort]; exact hL
  exact ⟨.ref _, upd H (s.heap.objs.size + 1) (.lst ((ps.mergeSort (PySem.W.dataLe false (·.1))).map (·.2))), I.laid (t' := s.toks) (fun _ _ => PyProof.Rows.sortedAll_old) (Nat.le_succ _) ⟨hlen2, out, ep, relv_each ho, he'⟩, rfl, q _ (I.hok.fresh (Nat.le_succ _))⟩

def encD (d : D) : PyData := (toPy d).getD .none
def leD : D → D → Bool := PySem.W.dataLe false encD
def sortD (ds : List D) : List D := ds.mergeSort leD
theorem sortD_perm (ds : List D) : (sortD ds).Perm ds := List.mergeSort_perm ds _
def pyOk (d : D) : Bool := (toPy d).isSome
def alikeD (ds : List D) : Bool := ds.all fun d => ds.all fun e => PySem.W.alike (encD d) (encD e)
def tupOk : D → Bool
  | .tup (_ :: _) => true
  | _ => false
def atomOk : D → Bool
  | .int _ => true
  | .str _ => true
  | .bl _ => true
  | _ => false
def sortOk (ds : List D) : Bool := ds.all pyOk && alikeD ds && (ds.all tupOk || ds.all atomOk) && ds.all fun d => decide ((encD d).depth ≤ 60)
def fSortA (mu : Bool) (ds : List D) (st : Sto) : Option (D × Sto) := match ds with
  | [d] => (lookL d st).bind fun es => match intsOf es with
    | some ns => some (alloc mu ((sortI ns).map D.int) st)
    | none => if sortOk es = true then some (alloc mu (sortD es) st) else none
  | _ => none
theorem reps_pairs {H0 : Hb} {as : List Addr} : ∀ {l : List (D × V)}, (∀ p ∈ l, Rep C H0 as p.1 p.2) → Reps C H0 as (l.map (·.1)) (l.map (·.2))
  | [], _ => rfl
  | p :: l, h => ⟨p.2, l.map (·.2), rfl, h p List.mem_cons_self, reps_pairs fun q m => h q (List.mem_cons_of_mem _ m)⟩
theorem pairs_reps {H0 : Hb} {as : List Addr} : ∀ {ds : List D} {vs : List V}, Reps C H0 as ds vs → (∀ p ∈ ds.zip vs, Rep C H0 as p.1 p.2) ∧ (ds.zip vs).map (·.1) = ds ∧ (ds.zip vs).map (·.2) = vs
  | [], _, h => by
    cases (show _ = [] from h)
    exact ⟨fun p m => absurd m List.not_mem_nil, rfl, rfl⟩
  | d :: ds, _, h => by
    obtain ⟨v, r, rfl, h1, h2⟩ := h
    obtain ⟨i1, i2, i3⟩ := pairs_reps h2
    refine ⟨fun p m => ?_, ?_, ?_⟩
    · rw [List.zip_cons_cons] at m
      rcases List.mem_cons.mp m with e | m
      · subst e
        exact h1
      · exact i1 p m
    · rw [List.zip_cons_cons, List.map_cons, i2]
    · rw [List.zip_cons_cons, List.map_cons, i3]
theorem encD_dp {H0 : Hb} {H : Hp} {as : List Addr} (ex : Same H0.h H) {d : D} {v : V} (h : pyOk d = true) (r : Rep C H0 as d v) : Dp C.K H v (encD d) := by
  unfold pyOk at h
  obtain ⟨p, hp⟩ := Option.isSome_iff_exists.mp h
  have e : encD d = p := by unfold encD; rw [hp]; rfl
  rw [e]
  exact toPy_dp ex hp r
theorem ok_sortA {mu : Bool} : OkC C (fun vs H Q => rSortedI C.K vs H Q ∨ rSortD C.K vs H Q) (fSortA mu) := by
  intro H0 as st H ds vs d st' Q w r hf k
  unfold fSortA at hf
  split at hf
  · obtain ⟨v, rfl, rv⟩ := reps1 r
    obtain ⟨es, he, hf⟩ := Option.bind_eq_some_iff.mp hf
    obtain ⟨a, us, rfl, hs, hr⟩ := lookL_seq w rv he
    split at hf
    · rename_i ns hn
      rw [intsOf_eq hn] at hr
      rw [hr.ints] at hs
      refine .inl ⟨a, ns, rfl, SqL.of hs, fun ns' p hp hw hfr => ?_⟩
      rw [sortI_eq hp hw]
      exact k.newA (Option.some.inj hf) w (Reps.of_ints _) p hfr
    · split at hf
      · rename_i hc
        obtain ⟨z1, z2, z3⟩ := pairs_reps hr
        unfold sortOk at hc
        simp only [Bool.and_eq_true, Bool.or_eq_true, List.all_eq_true, decide_eq_true_eq] at hc
        obtain ⟨⟨⟨c1, c2⟩, c3⟩, c4⟩ := hc
        have mem : ∀ p ∈ es.zip us, p.1 ∈ es := fun p m => by rw [← z2]; exact List.mem_map.mpr ⟨p, m, rfl⟩
        refine .inr ⟨a, (es.zip us).map fun p => (encD p.1, p.2), rfl, ?_, ?_, ?_, ?_, ?_, ?_⟩
        · rw [List.map_map]
          have e : (es.zip us).map ((fun p : PyData × V => p.2) ∘ fun p : D × V => (encD p.1, p.2)) = us := z3
          rw [e]
          exact SqL.of hs
        · intro p m
          obtain ⟨q, hq, rfl⟩ := List.mem_map.mp m
          exact encD_dp w.ex (c1 _ (mem q hq)) (z1 q hq)
        · intro x hx y hy
          obtain ⟨x1, hx1, rfl⟩ := List.mem_map.mp hx
          obtain ⟨y1, hy1, rfl⟩ := List.mem_map.mp hy
          obtain ⟨x2, hx2, rfl⟩ := List.mem_map.mp hx1
          obtain ⟨y2, hy2, rfl⟩ := List.mem_map.mp hy1
          unfold alikeD at c2
          exact List.all_eq_true.mp (List.all_eq_true.mp c2 _ (mem _ hx2)) _ (mem _ hy2)
        · rcases c3 with c3 | c3
          · refine .inl fun x hx => ?_
            obtain ⟨x1, hx1, rfl⟩ := List.mem_map.mp hx
            obtain ⟨x2, hx2, rfl⟩ := List.mem_map.mp hx1
            have t := c3 _ (mem _ hx2)
            have o := c1 _ (mem _ hx2)
            show ∃ y r, encD x2.1 = _
            generalize x2.1 = e at t o
            unfold tupOk at t
            split at t
            · rename_i e0 es0
              unfold pyOk at o
              obtain ⟨p, hp⟩ := Option.isSome_iff_exists.mp o
              have e2 : encD (.tup (e0 :: es0)) = p := by unfold encD; rw [hp]; rfl
              rw [e2]
              unfold toPy at hp
              obtain ⟨ps, hps, rfl⟩ := Option.map_eq_some_iff.mp hp
              unfold toPys at hps
              obtain ⟨q, hq, hps⟩ := Option.bind_eq_some_iff.mp hps
              obtain ⟨qs, hqs, rfl⟩ := Option.map_eq_some_iff.mp hps
              exact ⟨q, qs, rfl⟩
            · cases t
          · refine .inr fun x hx => ?_
            obtain ⟨x1, hx1, rfl⟩ := List.mem_map.mp hx
            obtain ⟨x2, hx2, rfl⟩ := List.mem_map.mp hx1
            have t := c3 _ (mem _ hx2)
            show encD x2.1 ≠ _ ∧ ∀ xs, encD x2.1 ≠ _
            generalize x2.1 = e at t
            unfold atomOk at t
            split at t
            · exact ⟨by simp [encD, toPy], fun xs => by simp [encD, toPy]⟩
            · exact ⟨by simp [encD, toPy], fun xs => by simp [encD, toPy]⟩
            · exact ⟨by simp [encD, toPy], fun xs => by simp [encD, toPy]⟩
            · cases t
        · intro p m
          obtain ⟨q, hq, rfl⟩ := List.mem_map.mp m
          exact c4 _ (mem q hq)
        · have e0 : ((es.zip us).mergeSort fun p q => leD p.1 q.1).map (fun p : D × V => (encD p.1, p.2)) = ((es.zip us).map fun p : D × V => (encD p.1, p.2)).mergeSort (PySem.W.dataLe false fun p : PyData × V => p.1) := List.map_mergeSort fun a _ b _ => rfl
          have e1 : (((es.zip us).map fun p => (encD p.1, p.2)).mergeSort (PySem.W.dataLe false (·.1))).map (·.2) = ((es.zip us).mergeSort fun p q => leD p.1 q.1).map (·.2) := by
            rw [← e0, List.map_map]
            rfl
          have e2 : sortD es = ((es.zip us).mergeSort fun p q => leD p.1 q.1).map (·.1) := by
            have e3 : ((es.zip us).mergeSort fun p q => leD p.1 q.1).map (fun p : D × V => p.1) = ((es.zip us).map fun p : D × V => p.1).mergeSort leD := List.map_mergeSort fun a _ b _ => rfl
            rw [e3, z2]
            rfl
          rw [e1]
          have hf := Option.some.inj hf
          rw [e2] at hf
          exact k.newA hf w (reps_pairs fun p m => z1 p ((List.mergeSort_perm _ _).mem_iff.mp m))
      · cases hf
  · cases hf
theorem c_sortA {k : Nat} (hr : Room k X.A) (mu : Bool) : CallR X (.builtin "sorted") (fun vs H Q => rSortedI X.K vs H Q ∨ rSortD X.K vs H Q) ∧ OkC (cyOf X) (fun vs H Q => rSortedI X.K vs H Q ∨ rSortD X.K vs H Q) (fSortA mu) := ⟨CallR.or cr_sortedI (cr_sortD hr), ok_sortA⟩

/-! ### x is True -/
def isB (a : D) (c : Bool) : Bool := match a with
  | .bl d => d == c
  | _ => false
def fIsB (neg : Bool) (a b : D) (st : Sto) : Option (D × Sto) := match b with
  | .bl c => some (.bl (if neg then !isB a c else isB a c), st)
  | _ => none
def rIsC (neg : Bool) : R2 := fun x y H Q => ∃ c, y = .bl c ∧ Q (.bl (if neg then !decide (x = .bl c) else decide (x = .bl c))) H
theorem plain_bl {x : V} {v : Value} {c : Bool} (rx : RelV x v) : plainIs v (.bool c) = true ∧ (v == .bool c) = decide (x = .bl c) := by
  cases x with
  | non => cases rx; exact ⟨rfl, rfl⟩
  | bl b => cases rx; exact ⟨rfl, by cases b <;> cases c <;> rfl⟩
  | int i => obtain ⟨t, rfl⟩ := rx; exact ⟨rfl, rfl⟩
  | str i => obtain ⟨t, rfl⟩ := rx; exact ⟨rfl, rfl⟩
  | byt i => obtain ⟨t, rfl⟩ := rx; exact ⟨rfl, rfl⟩
  | flt i => obtain ⟨t, rfl⟩ := rx; exact ⟨rfl, rfl⟩
  | ref i => cases rx; exact ⟨rfl, rfl⟩
  | ty i => cases rx; exact ⟨rfl, rfl⟩
theorem op_isC : OpR X (compareOp .Is) (rIsC false) := by
  intro pins s σ H x y v u Q I rx ry h
  obtain ⟨c, rfl, q⟩ := h
  cases (show u = Value.bool c from ry)
  obtain ⟨h1, h2⟩ := plain_bl (c := c) rx
  exact wpAny_is_plain h1 ⟨.bl _, H, I, (show _ = _ by rw [h2]; rfl), q⟩
theorem op_isnotC : OpR X (compareOp .IsNot) (rIsC true) := by
  intro pins s σ H x y v u Q I rx ry h
  obtain ⟨c, rfl, q⟩ := h
  cases (show u = Value.bool c from ry)
  obtain ⟨h1, h2⟩ := plain_bl (c := c) rx
  exact wpAny_isNot_plain h1 ⟨.bl _, H, I, (show _ = _ by rw [h2]; rfl), q⟩
theorem isB_ok {H0 : Hb} {as : List Addr} {d : D} {x : V} {c : Bool} (r : Rep C H0 as d x) : decide (x = .bl c) = isB d c := by
  cases d with
  | bl b => cases (show x = .bl b from r); cases b <;> cases c <;> rfl
  | non => cases (show x = .non from r); rfl
  | int b => cases (show x = .int b from r); rfl
  | str b => cases (show x = .str b from r); rfl
  | ty b => cases (show x = .ty b from r); rfl
  | adr b => cases (show x = .ref b from r); rfl
  | tup ds => obtain ⟨a, _, rfl, _⟩ := r; rfl
  | lst ds => obtain ⟨a, _, rfl, _⟩ := r; rfl
  | fro ds => obtain ⟨a, _, rfl, _⟩ := r; rfl
  | loc n => obtain ⟨a, _, rfl⟩ := r; rfl
  | fdk n ks ds => obtain ⟨a, _, _, _, rfl, _⟩ := r; rfl
  | set ns => obtain ⟨a, _, _, rfl, _⟩ := r; rfl
  | fn x => obtain ⟨a, rfl, _⟩ := r; rfl
theorem ok_isC {neg : Bool} : Ok2 C (rIsC neg) (fIsB neg) := by
  intro H0 as st H dx dy x y d st' Q w rx ry hf k
  unfold fIsB at hf
  split at hf
  · cases hf
    exact ⟨_, rep_bl ry, k.val w (by rw [isB_ok rx]; rfl)⟩
  · cases hf
theorem k_isB : OpR X (compareOp .Is) (rIsC false) ∧ Ok2 (cyOf X) (rIsC false) (fIsB false) := ⟨op_isC, ok_isC⟩
theorem k_isnotB : OpR X (compareOp .IsNot) (rIsC true) ∧ Ok2 (cyOf X) (rIsC true) (fIsB true) := ⟨op_isnotC, ok_isC⟩

/-! ### x in xs, data of any depth -/
def fInD (neg : Bool) (a b : D) (st : Sto) : Option (D × Sto) := (lookL b st).bind fun es => (toPys es).bind fun qs => (toPy a).bind fun p => if SeqAt.shaped p = true ∧ SeqAt.shaped (.list qs) = true then some (.bl (if neg then !qs.any fun z => PyData.eqv z p else qs.any fun z => PyData.eqv z p), st) else none
def rInA (K : PySem.W.Frag) (neg : Bool) : R2 := fun x y H Q => ∃ d ds, Dp K H x d ∧ Dp K H y (.list ds) ∧ SeqAt.shaped d = true ∧ SeqAt.shaped (.list ds) = true ∧ Q (.bl (if neg then !ds.any fun z => PyData.eqv z d else ds.any fun z => PyData.eqv z d)) H
theorem ok_inD {neg : Bool} : Ok2 C (rInA C.K neg) (fInD neg) := by
  intro H0 as st H dx dy x y d st' Q w rx ry hf k
  unfold fInD at hf
  obtain ⟨es, he, hf⟩ := Option.bind_eq_some_iff.mp hf
  obtain ⟨qs, hq, hf⟩ := Option.bind_eq_some_iff.mp hf
  obtain ⟨p, hp, hf⟩ := Option.bind_eq_some_iff.mp hf
  split at hf
  · rename_i hc
    cases hf
    obtain ⟨a, us, rfl, hs, hr⟩ := lookL_seq w ry he
    exact ⟨p, qs, toPy_dp w.ex hp rx, .lst (SqL.of hs) (toPys_dp w.ex hq hr), hc.1, hc.2, k.val w rfl⟩
  · cases hf
theorem op_inA {k : Nat} (hr : Room k X.A) : OpR X (compareOp .In) (rInA X.K false) := fun pins s σ H x y v u Q I rx ry h => op_inD (by have := hr.un; omega) pins s σ H x y v u Q I rx ry h
theorem op_niA {k : Nat} (hr : Room k X.A) : OpR X (compareOp .NotIn) (rInA X.K true) := fun pins s σ H x y v u Q I rx ry h => op_notInD (by have := hr.un; omega) pins s σ H x y v u Q I rx ry h
theorem k_inD {k : Nat} (hr : Room k X.A) : OpR X (compareOp .In) (rInA X.K false) ∧ Ok2 (cyOf X) (rInA X.K false) (fInD false) := ⟨op_inA hr, ok_inD⟩
theorem k_niD {k : Nat} (hr : Room k X.A) : OpR X (compareOp .NotIn) (rInA X.K true) ∧ Ok2 (cyOf X) (rInA X.K true) (fInD true) := ⟨op_niA hr, ok_inD⟩

/-! ### a text's sign -/
def fIxA (a b : D) (st : Sto) : Option (D × Sto) := match a with
  | .str z => match b with
    | .int i => if z.length ≤ sizeLine then (atI z.cps.toList i).map fun c => (.str ⟨#[c]⟩, st) else none
    | _ => none
  | a => fIx a b st
theorem ok_ixA : Ok2 C (fun x y H Q => rIxA C.K x y H Q ∨ rIxS x y H Q) fIxA := by
  intro H0 as st H dx dy x y d st' Q w rx ry hf k
  unfold fIxA at hf
  split at hf
  · split at hf
    · split at hf
      · rename_i hl
        obtain ⟨c, hc, e⟩ := Option.map_eq_some_iff.mp hf
        cases e
        exact .inr ⟨_, _, c, rep_str rx, rep_int ry, hl, hc, k.val w rfl⟩
      · cases hf
    · cases hf
  · exact .inl (ok_ix H0 as st H _ dy x y d st' Q w rx ry hf k)
theorem x_ixA {a b : Expr} {ma mb : ME} {pos : Pos} (ha : PE X a (eM (cyOf X) ma)) (hb : PE X b (eM (cyOf X) mb)) (hs : PlainIx b := by exact fun _ _ => rfl) : PE X (.Subscript a b pos) (eM (cyOf X) (mOp fIxA ma mb)) := PE.imp (pe_ix (IxR.or ix_A ix_str) ha hb hs) fun _ _ _ => em_op ok_ixA
end

/-! ### zip, enumerate -/
def zipD (xs ys : List D) : List D := (xs.zip ys).map fun p => .tup [p.1, p.2]
def enumD (xs : List D) : List D := xs.zipIdx.map fun p => .tup [.int (p.2 : Nat), p.1]
def frozenL : D → Option (List D)
  | .lst ds => some ds
  | .fro ds => some ds
  | _ => none
def miZip (m : MA) : MI := fun en st => (m en st).bind fun p => match p.1 with
  | [.tup xs, .tup ys] => some (⟨zipD xs ys, none⟩, p.2)
  | [a, b] => (frozenL a).bind fun xs => (frozenL b).map fun ys => (⟨zipD xs ys, none⟩, p.2)
  | _ => none
def miEnum (m : MA) : MI := fun en st => (m en st).bind fun p => match p.1 with
  | [a] => (frozenL a).map fun xs => (⟨enumD xs, none⟩, p.2)
  | _ => none
section
variable {C : Cy} {X : Cx}
theorem reps_two {H1 : Hb} {as1 : List Addr} {d d' : D} {x y : V} (r : Rep C H1 as1 d x) (r' : Rep C H1 as1 d' y) : Reps C H1 as1 [d, d'] [x, y] := ⟨_, _, rfl, r, _, _, rfl, r', rfl⟩
theorem newT_ex {H1 : Hb} {as1 : List Addr} {st : Sto} {H : Hp} {ds : List D} {vs : List V} (w : WR C H1 as1 st H) (r : Reps C H1 as1 ds vs) {T : Addr} (hT : H T = none) : ∃ H2 as2, Le H1 as1 H2 as2 ∧ WR C H2 as2 st (upd H T (.tup vs)) ∧ Rep C H2 as2 (.tup ds) (.ref T) :=
  KE.newT (Q := fun v H' => ∃ H2 as2, Le H1 as1 H2 as2 ∧ WR C H2 as2 st H' ∧ Rep C H2 as2 (.tup ds) v) (fun v H2 as2 H' l w r => ⟨H2, as2, l, w, r⟩) w r T hT
theorem zipD_get {xs ys : List D} {i : Nat} {d : D} (h : (zipD xs ys)[i]? = some d) : ∃ x y, xs[i]? = some x ∧ ys[i]? = some y ∧ d = .tup [x, y] := by
  unfold zipD at h
  rw [List.getElem?_map] at h
  obtain ⟨p, hp, rfl⟩ := Option.map_eq_some_iff.mp h
  obtain ⟨h1, h2⟩ := List.getElem?_eq_some_iff.mp hp
  rw [List.getElem_zip] at h2
  rw [List.length_zip] at h1
  subst h2
  exact ⟨_, _, List.getElem?_eq_getElem (by omega), List.getElem?_eq_getElem (by omega), rfl⟩
theorem itOk_zipT {a b : Addr} {xs ys : List D} {us vs : List V} {H0 : Hb} {as : List Addr} (q1 : SqT C.K H0.h a us) (r1 : Reps C H0 as xs us) (q2 : SqT C.K H0.h b vs) (r2 : Reps C H0 as ys vs) : ItOk C (RZ.ItzT C.K a b) ⟨zipD xs ys, none⟩ H0 as := by
  intro H1 as1 st H i l w _
  have p1 := same_seqT w.ex (same_seqT l.same q1)
  have p2 := same_seqT w.ex (same_seqT l.same q2)
  have s1 := r1.mono l
  have s2 := r2.mono l
  refine ⟨fun d hd => ?_, fun hi => ⟨us, vs, p1, p2, ?_⟩⟩
  · obtain ⟨x, y, hx, hy, rfl⟩ := zipD_get hd
    obtain ⟨u, hu, ru⟩ := s1.get hx
    obtain ⟨v, hv, rv⟩ := s2.get hy
    refine ⟨⟨us, vs, u, v, p1, p2, hu, hv⟩, fun z H' t => ?_⟩
    obtain ⟨T, x', y', rfl, hT, rfl, e1, e2⟩ := t
    have e1 := e1 us p1
    have e2 := e2 vs p2
    rw [hu] at e1
    rw [hv] at e2
    cases e1
    cases e2
    exact newT_ex w (reps_two ru rv) hT
  · have hi : (zipD xs ys).length ≤ i := hi
    unfold zipD at hi
    rw [List.length_map, List.length_zip] at hi
    have e1 := r1.length
    have e2 := r2.length
    omega
theorem itOk_zipL {a b : Addr} {xs ys : List D} {us vs : List V} {H0 : Hb} {as : List Addr} (q1 : SqL C.K H0.h a us) (r1 : Reps C H0 as xs us) (q2 : SqL C.K H0.h b vs) (r2 : Reps C H0 as ys vs) : ItOk C (Itz C.K a b) ⟨zipD xs ys, none⟩ H0 as := by
  intro H1 as1 st H i l w _
  have p1 := w.ex.seq (l.same.seq q1)
  have p2 := w.ex.seq (l.same.seq q2)
  have s1 := r1.mono l
  have s2 := r2.mono l
  refine ⟨fun d hd => ?_, fun hi => ⟨us, vs, p1, p2, ?_⟩⟩
  · obtain ⟨x, y, hx, hy, rfl⟩ := zipD_get hd
    obtain ⟨u, hu, ru⟩ := s1.get hx
    obtain ⟨v, hv, rv⟩ := s2.get hy
    refine ⟨⟨us, vs, u, v, p1, p2, hu, hv⟩, fun z H' t => ?_⟩
    obtain ⟨T, x', y', rfl, hT, rfl, e1, e2⟩ := t
    have e1 := e1 us p1
    have e2 := e2 vs p2
    rw [hu] at e1
    rw [hv] at e2
    cases e1
    cases e2
    exact newT_ex w (reps_two ru rv) hT
  · have hi : (zipD xs ys).length ≤ i := hi
    unfold zipD at hi
    rw [List.length_map, List.length_zip] at hi
    have e1 := r1.length
    have e2 := r2.length
    omega
theorem itOk_enum {a : Addr} {xs : List D} {us : List V} {H0 : Hb} {as : List Addr} (q1 : SqL C.K H0.h a us) (r1 : Reps C H0 as xs us) : ItOk C (Ite C.K a) ⟨enumD xs, none⟩ H0 as := by
  intro H1 as1 st H i l w _
  have p1 := w.ex.seq (l.same.seq q1)
  have s1 := r1.mono l
  refine ⟨fun d hd => ?_, fun hi => ⟨us, p1, ?_⟩⟩
  · have hd : (enumD xs)[i]? = some d := hd
    unfold enumD at hd
    rw [List.getElem?_map, List.getElem?_zipIdx, Option.map_map] at hd
    obtain ⟨x, hx, rfl⟩ := Option.map_eq_some_iff.mp hd
    obtain ⟨u, hu, ru⟩ := s1.get hx
    refine ⟨⟨us, u, p1, hu⟩, fun z H' t => ?_⟩
    obtain ⟨T, x', rfl, hT, rfl, e1⟩ := t
    have e1 := e1 us p1
    rw [hu] at e1
    cases e1
    refine newT_ex w (reps_two ?_ ru) hT
    show V.int _ = V.int _
    simp
  · have hi : (enumD xs).length ≤ i := hi
    unfold enumD at hi
    rw [List.length_map, List.length_zipIdx] at hi
    have e1 := r1.length
    omega
theorem frozen_seq {H0 : Hb} {as : List Addr} {d : D} {x : V} {ds : List D} (r : Rep C H0 as d x) (h : frozenL d = some ds) : ∃ a vs, x = .ref a ∧ SqL C.K H0.h a vs ∧ Reps C H0 as ds vs := by
  unfold frozenL at h
  split at h
  · cases h
    obtain ⟨a, vs, rfl, q, r⟩ := r
    exact ⟨a, vs, rfl, SqL.of q, r⟩
  · cases h
    obtain ⟨a, vs, rfl, q, r⟩ := r
    exact ⟨a, vs, rfl, q, r⟩
  · cases h
variable {σ : L2.St} {H : Hp} {R : It → Hp → Prop} {m : MA}
theorem im_zip : iM C (miZip m) σ H R → RZ.iZipA C.K (aM C m) σ H R := by
  rintro ⟨H0, as, en, st, s, st', e, w, hm, k⟩
  unfold miZip at hm
  obtain ⟨⟨d, s1⟩, ha, hm⟩ := Option.bind_eq_some_iff.mp hm
  dsimp only at hm
  split at hm
  · cases hm
    refine ⟨H0, as, en, st, _, _, e, w, ha, fun vs H1 as1 H1' l1 w1 r1 => ?_⟩
    obtain ⟨v, v', rfl, rv, rv'⟩ := reps2 r1
    obtain ⟨a, us, rfl, q1, y1⟩ := rv
    obtain ⟨b, ws, rfl, q2, y2⟩ := rv'
    exact ⟨a, b, us, ws, rfl, .inr ⟨same_seqT w1.ex q1, same_seqT w1.ex q2, k _ H1 as1 H1' l1 w1 fun g => itOk_zipT (H0 := ⟨H1.h, g⟩) q1 (y1.gset g) q2 (y2.gset g)⟩⟩
  · obtain ⟨xs, hx, hm⟩ := Option.bind_eq_some_iff.mp hm
    obtain ⟨ys, hy, hm⟩ := Option.map_eq_some_iff.mp hm
    cases hm
    refine ⟨H0, as, en, st, _, _, e, w, ha, fun vs H1 as1 H1' l1 w1 r1 => ?_⟩
    obtain ⟨v, v', rfl, rv, rv'⟩ := reps2 r1
    obtain ⟨a, us, rfl, q1, y1⟩ := frozen_seq rv hx
    obtain ⟨b, ws, rfl, q2, y2⟩ := frozen_seq rv' hy
    exact ⟨a, b, us, ws, rfl, .inl ⟨w1.ex.seq q1, w1.ex.seq q2, k _ H1 as1 H1' l1 w1 fun g => itOk_zipL (H0 := ⟨H1.h, g⟩) q1 (y1.gset g) q2 (y2.gset g)⟩⟩
  · cases hm
theorem im_enum : iM C (miEnum m) σ H R → iEnum C.K (aM C m) σ H R := by
  rintro ⟨H0, as, en, st, s, st', e, w, hm, k⟩
  unfold miEnum at hm
  obtain ⟨⟨d, s1⟩, ha, hm⟩ := Option.bind_eq_some_iff.mp hm
  dsimp only at hm
  split at hm
  · obtain ⟨xs, hx, hm⟩ := Option.map_eq_some_iff.mp hm
    cases hm
    refine ⟨H0, as, en, st, _, _, e, w, ha, fun vs H1 as1 H1' l1 w1 r1 => ?_⟩
    obtain ⟨v, rfl, rv⟩ := reps1 r1
    obtain ⟨a, us, rfl, q1, y1⟩ := frozen_seq rv hx
    exact ⟨a, us, rfl, w1.ex.seq q1, k _ H1 as1 H1' l1 w1 fun g => itOk_enum (H0 := ⟨H1.h, g⟩) q1 (y1.gset g)⟩
  · cases hm
theorem i_zip {e e2 : Expr} {p pos tpos : Pos} {elts : List Expr} {kk : Nat} (hg : Gl X "zip") (hm : X.mg "zip" = none) (ha : PA X [e, e2] (aM (cyOf X) m))
    (hs : starEach [e, e2] X.env = (false, eval e X.env) :: starEach [e2] X.env := by rfl) (hpl : (backTo pos (starEach [e2] X.env)).any (·.1) = false := by rfl) : PI X (.Tuple elts kk tpos) (.Call (.Name "zip" p) [e, e2] [] pos) (iM (cyOf X) (miZip m)) := PI.imp (RZ.pi_zipA hg hm ha hs hpl) fun _ _ _ => im_zip
theorem i_enum {e : Expr} {p pos tpos : Pos} {elts : List Expr} {kk : Nat} (hg : Gl X "enumerate") (hm : X.mg "enumerate" = none) (ha : PA X [e] (aM (cyOf X) m)) (hs : starEach [e] X.env = [(false, eval e X.env)] := by rfl) : PI X (.Tuple elts kk tpos) (.Call (.Name "enumerate" p) [e] [] pos) (iM (cyOf X) (miEnum m)) := PI.imp (pi_enum hg hm ha hs) fun _ _ _ => im_enum
end
end My


namespace My
open PySem PySem.Spec PySem.Calls PyProof.Rows L2
/-! ### super().__init__(e, ..) at the head of the __init__ of an own exception class over ValueError -/
/-- what the written part says of the class's __init__ and its cell -/
structure SupC (P : Program) (K : PySem.W.Frag) (C cc cda : Addr) : Prop where
  T : OexC K C
  cell : ∃ cl cld csl, K.lookup cc = some ⟨cl, cld, .cell (some (.ref C)), csl⟩
  code : ∃ ccl cdd vs ccs file tf, K.lookup cda = some ⟨ccl, cdd, .fields vs, ccs⟩ ∧ vs[2]? = some (.str file tf) ∧ ((P.main.file : Str) == file) = true
  sub : PySem.W.mroIn K C (.ref C) = some true
  sup : PySem.W.ks_superIn K C C "__init__" = some (some (.builtin "ValueError.__init__"))
  inB : PySem.W.subIn K (.ref C) (.type "ValueError") = some true
  opq : PySem.W.nsIn K cStatics "thirdparty.any" = some none
  top : (P.main.scope.names.lookup ("super" : Str)).isSome = false
/-- the call of the method-wrapper -/
theorem sup_call {X : Cx} {pins : List (Addr × Obj)} {σ : L2.St} {H : Hp} {s : Shared} {a C u : Addr} {us : List Value} {Q : Value → Shared → Prop} {E : Value → Shared → Prop} {A : Around} (T : OexC X.K C) (I : Inv X pins σ H s) (e : H a = some (exo a C none)) (hu : s.heap.get? u = some (PySem.W.kxs_mw "ValueError.__init__" a)) (hl : us.length ≤ sizeLine)
    (h : ∀ s', Inv X pins σ H s' → Q .none s') : wpAny (model X.prog X.w) A (call (.ref u) us) Q E s := by
  obtain ⟨nm, q, N, bs, bm, sn, sub, ab, col, dd, k0, k1, k2, k3, k5, hC, hbm⟩ := T.cls
  obtain ⟨t1, ho⟩ := exo_at I.hok e
  have hC' := I.kIn _ _ hC
  obtain ⟨hp, g, d, t, os⟩ := s
  refine wpAny_call (codeAny_of_tree ?_)
  show wpAny _ A.in1 (callAny (.ref u) ⟨us, []⟩) _ _ _
  simp only [callAny]
  refine wpAny_bind (wpAny_load hu ?_)
  simp only [PySem.W.kxs_mw, show (Value.type "method-wrapper" == Value.type "method" || Value.type "method-wrapper" == Value.type "builtin_function_or_method" || Value.type "method-wrapper" == Value.type "method-wrapper") = true by decide, if_true]
  refine PySem.W.KFB.if_so (by decide) ?_
  refine wpAny_bind (PySem.W.check_bound_init F.excBase_ValueError.toExcCallFacts hC' ho rfl ?_)
  refine wpAny_bind (wpAny_pure (wpAny_pure ?_))
  refine ⟨plainId_quiet F.excBase_ValueError.init.plain _, codeAny_builtin F.excBase_ValueError.initEntry ?_⟩
  refine PySem.W.exc_init_tree (cls := .ref C) (t0 := t1) (dv := none) (c2 := .none) (c3 := .none) (b4 := .bool false) ho hl fun h' k hx ht => ?_
  have J := I.write (t' := t) (x := a) (e := a) (o := exo a C none) (by rw [e]; exact True.intro) (.inl rfl) k ⟨_, hx⟩ (exo_ok hx)
  have eu : upd H a (exo a C none) = H := by
    funext b
    by_cases hb : b = a
    · rw [hb, upd_same, e]
    · rw [upd_ne hb]
  rw [eu] at J
  exact h _ J

open NdefX in
/-- THE RULE: an __init__ whose first statement is super().__init__(e, ..) -/
theorem x_init {P : Program} {w : World} {K : PySem.W.Frag} {mg : Str → Option Value} {base : Heap} {CX : CXT} {k : Nat} {f C cc cda : Addr} {name qual : Str} {params : Arguments} {scope : Scope} {kV doc pm ct oc : Value} {an od : Option Addr} {osl : Array (Option Value)} {N ps : List Str} {p0 : Str} {sp : Sp}
    {e : Expr} {es : List Expr} {rest : List Stmt} {q0 q1 ap cp ep : Pos} {ar : Arg} {pl : Sem Bool}
    (lk : K.lookup f = some ⟨oc, od, .func (PySem.W.ksFn name qual params (.Expr (.Call (.Attribute (.Call (.Name "super" q0) [] [] q1) "__init__" ap) (e :: es) [] cp) ep :: rest) scope .none kV doc pm an (.ref cda) ct cc), osl⟩)
    (hcd : PySem.W.codeIn K (.ref cda) qual = true) (Z : SupC P K C cc cda) (S : NScope N ps ["__class__"] scope) (hp : (params.posonlyargs ++ params.args).head? = some ar) (hps : ps[0]? = some ar.arg)
    (hks : scope.names.lookup ("super" : Str) = some .globalImplicit) (hmg : mg "super" = none)
    (len : ∀ vs H Q E, sp vs H Q E → vs.length = ps.length ∧ ∃ a r, vs = .ref a :: r ∧ H a = some (exo a C none))
    (hbody : ∀ (A : Around) (outer : List Env) (s : Shared) (H : Hp) (vs : List V) (Q : VK) (E : XK), Room k (A.deeper (envF ⟨name, qual, params, (.Expr (.Call (.Attribute (.Call (.Name "super" q0) [] [] q1) "__init__" ap) (e :: es) [] cp) ep :: rest), scope, [("__class__", cc)], cda⟩ f s.heap.objs.size)) → sp vs H Q E →
      ∃ ta tr, PA (ncx CX P w K mg base N ⟨name, qual, params, (.Expr (.Call (.Attribute (.Call (.Name "super" q0) [] [] q1) "__init__" ap) (e :: es) [] cp) ep :: rest), scope, [("__class__", cc)], cda⟩ f A outer s H E) (e :: es) ta ∧
        PSs (ncx CX P w K mg base N ⟨name, qual, params, (.Expr (.Call (.Attribute (.Call (.Name "super" q0) [] [] q1) "__init__" ap) (e :: es) [] cp) ep :: rest), scope, [("__class__", cc)], cda⟩ f A outer s H E) rest tr ∧
        ta (startF N vs [none]) H fun zs H1 => zs.length ≤ 1000 ∧ (∀ a r, vs = .ref a :: r → H1 a = some (exo a C none)) ∧ tr { nx := fun _ H' => Q .non H', rt := Q } (startF N vs [none]) H1)
    (hst : ∀ env : Env, starEach (e :: es) env = (false, eval e env) :: starEach es env) (hpl : ∀ env : Env, (backTo cp (starEach es env)).any (·.1) = false)
    (hev : ∀ env : Env, eval (.Call (.Attribute (.Call (.Name "super" q0) [] [] q1) "__init__" ap) (e :: es) [] cp) env = (do
      let ov ← attributeBase (.Call (.Name "super" q0) [] [] q1) "__init__" env (eval (.Call (.Name "super" q0) [] [] q1) env)
      standAt ap.atName
      let (f, first) ← holding [ov] (getMethod ov "__init__" pl)
      callWith cp f first (backTo cp (starEach (e :: es) env)) []))
    (hsw : ∀ env : Env, swapsWith (.Call (.Attribute (.Call (.Name "super" q0) [] [] q1) "__init__" ap) (e :: es) [] cp) none ep.line env = pure false) :
    FnOk P w K mg base CX (k + 1) f (PySem.W.ksFn name qual params (.Expr (.Call (.Attribute (.Call (.Name "super" q0) [] [] q1) "__init__" ap) (e :: es) [] cp) ep :: rest) scope .none kV doc pm an (.ref cda) ct cc) ps sp := by
  generalize hF : (⟨name, qual, params, (.Expr (.Call (.Attribute (.Call (.Name "super" q0) [] [] q1) "__init__" ap) (e :: es) [] cp) ep :: rest), scope, [("__class__", cc)], cda⟩ : NF) = F0 at hbody
  refine ⟨fun vs H Q E h => (len vs H Q E h).1, fun A outer s H args us vs Q E hr e0 hb r hsp => ?_⟩
  obtain ⟨hl, a, rr, hvs, ha⟩ := len _ _ _ _ hsp
  have KX : K.In s.heap := e0.mod.kin.keeps fun b o e => (e0.bs b o e).1
  have lim : s.heap.NoLimit := e0.mod.nolimit.keeps fun b o e => (e0.bs b o e).1
  obtain ⟨cl, cld, csl, hcell⟩ := Z.cell
  have hcb := e0.bs _ _ (e0.mod.kin _ _ hcell)
  have CA : CellsAt F0.cl ["__class__"] [none] s.heap H := by
    rw [← hF]
    refine ⟨rfl, fun y c h => ?_, fun x y c hx hy => ?_, fun i y h => ?_⟩
    · have e2 : c = cc := by
        simp only [List.lookup] at h
        split at h
        · exact (Option.some.inj h).symm
        · cases h
      rw [e2]
      exact ⟨hcb.2, _, _, hcb.1, rfl⟩
    · simp only [List.lookup] at hx hy
      split at hx
      · rename_i h1
        split at hy
        · rename_i h2
          rw [beq_iff_eq.mp h1, beq_iff_eq.mp h2]
        · cases hy
      · cases hx
    · cases i with
      | zero =>
        cases h
        refine ⟨cc, by simp [List.lookup], fun v hv => ?_⟩
        cases hv
      | succ i => simp at h
  have S' : NScope N ps ["__class__"] F0.scope := by
    rw [← hF]
    exact S
  obtain ⟨ta, tr, hA, hT, hq⟩ := hbody A outer s H vs Q E (by rw [← hF] <;> exact hr.deeper _) hsp
  subst hF
  refine PySem.ks_codeAny_call_defAt (binds := ps.zip us) hr.depth (KX _ _ lk) rfl lim (PySem.W.codeRec_of KX hcd) rfl hb S.nocell (fun ⟨n, _⟩ hy => S.par n (List.of_mem_zip hy).1) (fun h₁ hns kp => ?_) S.co S.gen S.kind
  have I := inv_startN (CX := CX) (E := E) (f := f) (tk := s.toks + (ps.zip us).length) S' hr.hd e0 hl r CA hns kp
  have kin1 : K.In h₁ := KX.keeps kp
  obtain ⟨nm, q, N', bs, bm, sn, sub, ab, col, dd, k0, k1, k2, k3, k5, hC, hbm⟩ := Z.T.cls
  obtain ⟨ccl, cdd, vv, ccs, file, tf, hco, hv2, hfile⟩ := Z.code
  obtain ⟨mb, hb1, hb2⟩ := I.mod.blt
  obtain ⟨t1, ho1⟩ := exo_at I.hok ha
  have hD1 := kin1 _ _ hC
  have hu0 : us[0]? = some (.ref a) := by
    rw [hvs] at r
    cases r with
    | cons r1 _ =>
      cases r1
      rfl
  have ndP : ps.Nodup := by
    have z := S.nd.sublist (List.take_sublist (ps.length + 1) N)
    have z2 := S.pre
    simp only [List.length_cons, List.length_nil] at z2
    rw [z2] at z
    exact (List.nodup_append.mp z).1
  refine PySem.ks_wpAt_execs_cons (PySem.ks_wpAt_Expr_any (PySem.ks_wpAt_MethodCall (pl := pl) (PySem.ks_wpAt_super_base (f := f) (cc := cda) hks (S.frk _ (by simp)) rfl rfl (kin1 _ _ lk) rfl hp rfl (kin1 _ _ hco) rfl hv2 hfile Z.top ?_) (hev _)) (by first | rfl | (unfold interactive; simp [S.kind]; done) | (unfold interactive; rw [show (callEnv (PySem.W.ksFn name qual params (.Expr (.Call (.Attribute (.Call (.Name "super" q0) [] [] q1) "__init__" ap) (e :: es) [] cp) ep :: rest) scope .none kV doc pm an (.ref cda) ct cc) s.heap.objs.size f).scope = scope from rfl, S.kind]; rfl)) (hsw _))
  refine PySem.W.ks_loadName_global S.kind hks (Calls.loadGlobal_builtin (I.mod.glob.keeps I.bk) hmg (hb1.keeps I.bk) ((hb2 "super" (by decide)).trans (by decide +kernel)) ⟨rfl, ?_⟩)
  refine wpAny_loadName_free S.kind (S.frk _ (by simp)) rfl ⟨_, kp _ _ hcb.1, rfl⟩ ?_
  refine wpAny_loadName_local S.kind (S.par _ (List.mem_of_getElem? hps)) hns (zip_look ndP hps hu0) ?_
  refine PySem.ks_wpAny_isType_cls hD1 rfl ⟨rfl, ?_⟩
  refine PySem.ks_wpAny_call_super hD1 rfl ho1 rfl (fun c z => by cases z) (PySem.W.looks_mroIn kin1 Z.sub) (fun h' e' k' => ?_)
  have hclsC : PySem.W.clsIn K C = some { name := nm, bases := bs, mro := .ref C :: bm, ns := N', qualname := q, hasDict := true, slotNames := sn, subclasses := sub, abstract := ab, collection := col, hasDel := false } := by unfold PySem.W.clsIn; rw [hC] <;> rfl
  have kin2 : K.In h' := kin1.keeps k'
  have hsup := Z.sup
  unfold PySem.W.ks_superIn at hsup
  rw [hclsC] at hsup
  have IA : PySem.W.InstAt h' a ({ cls := .ref C, dict := none, data := .fields #[.ref t1, .none, .none, .none, .bool false, .none] } : Obj) C none := ⟨k' _ _ ho1, rfl, rfl, trivial⟩
  have I2 := I.kept (t' := s.toks + (ps.zip us).length) k'
  refine PySem.W.kxs_getMethod PySem.W.kxs_ValueError e' (PySem.W.looks_opaque kin2 Z.opq) (l₀ := .ref C :: bm) (fun A Q E s k q => wpAny_bind ((PySem.W.looks_clsIn kin2 hclsC) A _ E s k (wpAny_pure q))) rfl kin2 hsup (IA.type.andThen (PySem.W.looks_subIn kin2 Z.inB)) (PySem.W.ks_ne kin2 IA hclsC) (by decide) ?_
  have kp3 : ∀ b o, h'.get? b = some o → (h'.push (PySem.W.kxs_mw "ValueError.__init__" a)).get? b = some o := fun b o e => Heap.get?_push_of_some _ e
  have I3 := I2.kept (t' := s.toks + (ps.zip us).length + 1) kp3
  have hmw : (h'.push (PySem.W.kxs_mw "ValueError.__init__" a)).get? h'.objs.size = some (PySem.W.kxs_mw "ValueError.__init__" a) := Heap.get?_push_size _ rfl
  have I4 := I3.pins_of (pins' := [(h'.objs.size, PySem.W.kxs_mw "ValueError.__init__" a)]) (fun p hp => by
    have ep : p = (h'.objs.size, PySem.W.kxs_mw "ValueError.__init__" a) := by simpa using hp
    subst ep
    exact ⟨hmw, I2.hok.fresh (Nat.le_refl _), Nat.ne_of_gt I2.lt, I2.nofs (Nat.le_refl _), fun v z => by cases z⟩)
  refine PySem.W.kxs_callWith (i := "ValueError.__init__") (x := a) (by rw [hst]; show (false || _) = false; rw [Bool.false_or]; exact hpl _) ?_
  rw [hst]
  refine Calls.evalArgs_plain ?_
  have hA2 := hA.run cp _ _ _ _ _ I4 hq
  rw [hst] at hA2
  refine wpAny_mono hA2 (fun us2 s2 ⟨zs, H1, I5, r5, hz, ha5, q5⟩ => ?_) fun _ _ x => x
  have hm5 := (I5.pin (h'.objs.size, PySem.W.kxs_mw "ValueError.__init__" a) (by simp)).1
  refine ⟨hm5, sup_call Z.T I5 (ha5 a rr hvs) hm5 (by show us2.length ≤ sizeLine; rw [← Paired.length r5, sizeLine_eq]; omega) fun s6 I6 => ?_⟩
  refine wpAt_of_wpAny (wpAny_mono (hT.run _ s6 _ _ _ I6 q5) (fun fl s' hs => ?_) fun e s' hs => hs)
  have fin : ∀ {σ' : L2.St} {H' : Hp} {v : V} {u : Value}, Inv (ncx CX P w K mg base N ⟨name, qual, params, (.Expr (.Call (.Attribute (.Call (.Name "super" q0) [] [] q1) "__init__" ap) (e :: es) [] cp) ep :: rest), scope, [("__class__", cc)], cda⟩ f A outer s H E) [(h'.objs.size, PySem.W.kxs_mw "ValueError.__init__" a)] σ' H' s' → L2.RelV v u → Q v H' → CE outer P w H s Q u s' :=
    fun {σ' H' v u} J rv q => ⟨v, H', J.os, J.bare, J.base, J.hok, rv, q⟩
  cases fl with
  | ret u =>
    obtain ⟨v, σ', H', J, rv, q⟩ := hs
    exact fin J rv q
  | next =>
    obtain ⟨σ', H', J, q⟩ := hs
    exact fin (v := V.non) (u := Value.none) J rfl q
  | brk =>
    obtain ⟨_, _, _, q⟩ := hs
    exact False.elim q
  | cont =>
    obtain ⟨_, _, _, q⟩ := hs
    exact False.elim q
end My


namespace My
open PySem PySem.Spec PySem.Calls PyProof.Rows L2
/-! ### exceptions of own classes: plain values -/
/-- an exception: its class's name and its fields, the last one first -/
structure Ex where
  cls : Str
  fs : List (Str × D)
inductive RX (α : Type) where
  | ok (a : α)
  | ex (x : Ex)
abbrev MEx := En → Sto → Option (RX D × Sto)
abbrev MAx := En → Sto → Option (RX (List D) × Sto)
abbrev MFx := List D → Sto → Option (RX D × Sto)
inductive OutX where
  | o (o : Out)
  | ex (en : En) (x : Ex)
abbrev MSx := En → Sto → Option (OutX × Sto)

def ExR (C : Cy) (H0 : Hb) (as : List Addr) (x : Ex) (cls : Value) (d : Option Addr) : Prop :=
  (∃ ca, cls = .ref ca ∧ PySem.W.nsIn C.K mainGlobals x.cls = some (some (.ref ca))) ∧ ∃ dd gs, d = some dd ∧ H0.h dd = some (.xd gs) ∧ RepKV C H0 as x.fs gs
theorem ExR.mono {C : Cy} {H H' : Hb} {as as' : List Addr} {x : Ex} {cls : Value} {d : Option Addr} (l : Le H as H' as') (r : ExR C H as x cls d) : ExR C H' as' x cls d := by
  obtain ⟨h1, dd, gs, h2, h3, h4⟩ := r
  exact ⟨h1, dd, gs, h2, l.same _ _ h3, h4.mono l⟩
def KW (C : Cy) (H0 : Hb) (as : List Addr) (st : Sto) (en : En) (x : Ex) (W : WX) : Prop := ∀ σ H0' as' H' cls d, Le H0 as H0' as' → WR C H0' as' st H' → EnR C H0' as' en σ → ExR C H0' as' x cls d → W cls d σ H'
theorem KW.mono {C : Cy} {H H1 : Hb} {as as1 : List Addr} {st : Sto} {en : En} {x : Ex} {W : WX} (l : Le H as H1 as1) (k : KW C H as st en x W) : KW C H1 as1 st en x W := fun σ H' as' H'' cls d l' => k σ H' as' H'' cls d (l.trans l')
def KR {α : Type} (k : α → Prop) (w : Ex → Prop) : RX α → Prop
  | .ok a => k a
  | .ex x => w x
def KOX (C : Cy) (H0 : Hb) (as : List Addr) (st : Sto) (N : Ends) (W : WX) : OutX → Prop
  | .o o => KO C H0 as st N o
  | .ex en x => KW C H0 as st en x W
def eX (C : Cy) (m : MEx) (W : WX) : TE := fun σ H Q => ∃ H0 as en st r st', EnR C H0 as en σ ∧ WR C H0 as st H ∧ m en st = some (r, st') ∧ KR (fun d => KE C H0 as st' d Q) (fun x => KW C H0 as st' en x W) r
def aX (C : Cy) (m : MAx) (W : WX) : TA := fun σ H Q => ∃ H0 as en st r st', EnR C H0 as en σ ∧ WR C H0 as st H ∧ m en st = some (r, st') ∧ KR (fun d => KA C H0 as st' d Q) (fun x => KW C H0 as st' en x W) r
def sX (C : Cy) (m : MSx) (W : WX) : TS := fun N σ H => ∃ H0 as en st o st', EnR C H0 as en σ ∧ WR C H0 as st H ∧ m en st = some (o, st') ∧ KOX C H0 as st' N W o

def lE (m : ME) : MEx := fun en st => (m en st).map fun p => (.ok p.1, p.2)
def lA (m : MA) : MAx := fun en st => (m en st).map fun p => (.ok p.1, p.2)
def lS (m : MS) : MSx := fun en st => (m en st).map fun p => (.o p.1, p.2)
/-- what is left where nothing is raised -/
def runX (m : MSx) : MS := fun en st => (m en st).bind fun p => match p.1 with
  | .o o => some (o, p.2)
  | .ex _ _ => none
def bindX {α β : Type} (p : Option (RX α × Sto)) (k : α → Sto → Option (RX β × Sto)) : Option (RX β × Sto) := p.bind fun q => match q.1 with
  | .ok a => k a q.2
  | .ex x => some (.ex x, q.2)
theorem bindX_some {α β : Type} {p : Option (RX α × Sto)} {k : α → Sto → Option (RX β × Sto)} {r : RX β} {st' : Sto} (h : bindX p k = some (r, st')) : (∃ a s1, p = some (.ok a, s1) ∧ k a s1 = some (r, st')) ∨ ∃ x, p = some (.ex x, st') ∧ r = .ex x := by
  unfold bindX at h
  obtain ⟨⟨q, s1⟩, h1, h2⟩ := Option.bind_eq_some_iff.mp h
  cases q with
  | ok a => exact .inl ⟨a, s1, h1, h2⟩
  | ex x =>
    cases h2
    exact .inr ⟨x, h1, rfl⟩
def opX (f : D → D → Sto → Option (D × Sto)) (a b : MEx) : MEx := fun en st => bindX (a en st) fun x s1 => bindX (b en s1) fun y s2 => (f x y s2).map fun p => (.ok p.1, p.2)
def unX (f : D → Sto → Option (D × Sto)) (a : MEx) : MEx := fun en st => bindX (a en st) fun x s1 => (f x s1).map fun p => (.ok p.1, p.2)
def nilX : MAx := fun _ st => some (.ok [], st)
def consX (a : MEx) (r : MAx) : MAx := fun en st => bindX (a en st) fun x s1 => bindX (r en s1) fun y s2 => some (.ok (x :: y), s2)
def cbX (f : List D → Sto → Option (D × Sto)) (a : MAx) : MEx := fun en st => bindX (a en st) fun x s1 => (f x s1).map fun p => (.ok p.1, p.2)
def callX (f : MFx) (a : MAx) : MEx := fun en st => bindX (a en st) f
def tupX (a : MAx) : MEx := fun en st => bindX (a en st) fun xs s1 => if xs.length ≤ sizeLine then some (.ok (.tup xs), s1) else none
def lstX (mu : Bool) (a : MAx) : MEx := fun en st => bindX (a en st) fun xs s1 => if xs.length ≤ sizeLine then some (.ok (alloc mu xs s1).1, (alloc mu xs s1).2) else none
def condX (c : MB) (a b : MEx) : MEx := fun en st => (c en st).bind fun p => if p.1 = true then a en p.2 else b en p.2

section
variable {C : Cy} {σ : L2.St} {H : Hp} {Q : VK} {W : WX} {ma mb : MEx}
theorem ex_lift {m : ME} : eX C (lE m) W σ H Q → eM C m σ H Q := by
  rintro ⟨H0, as, en, st, r, st', e, w, hm, k⟩
  obtain ⟨⟨d, s1⟩, h1, e1⟩ := Option.map_eq_some_iff.mp hm
  cases e1
  exact ⟨H0, as, en, st, d, _, e, w, h1, k⟩
theorem ax_lift {m : MA} {Q : List V → Hp → Prop} : aX C (lA m) W σ H Q → aM C m σ H Q := by
  rintro ⟨H0, as, en, st, r, st', e, w, hm, k⟩
  obtain ⟨⟨d, s1⟩, h1, e1⟩ := Option.map_eq_some_iff.mp hm
  cases e1
  exact ⟨H0, as, en, st, d, _, e, w, h1, k⟩
theorem sx_lift {m : MS} {N : Ends} : sX C (lS m) W N σ H → sM C m N σ H := by
  rintro ⟨H0, as, en, st, r, st', e, w, hm, k⟩
  obtain ⟨⟨d, s1⟩, h1, e1⟩ := Option.map_eq_some_iff.mp hm
  cases e1
  exact ⟨H0, as, en, st, d, _, e, w, h1, k⟩
theorem sm_runX {m : MSx} {N : Ends} : sM C (runX m) N σ H → sX C m W N σ H := by
  rintro ⟨H0, as, en, st, r, st', e, w, hm, k⟩
  obtain ⟨⟨o, s1⟩, h1, e1⟩ := Option.bind_eq_some_iff.mp hm
  cases o with
  | o o =>
    cases e1
    exact ⟨H0, as, en, st, .o _, _, e, w, h1, k⟩
  | ex en x => cases e1
theorem ex_op {r : R2} {f : D → D → Sto → Option (D × Sto)} (ok : Ok2 C r f) : eX C (opX f ma mb) W σ H Q → tOp r (eX C ma W) (eX C mb W) σ H Q := by
  rintro ⟨H0, as, en, st, r0, st', e, w, hm, k⟩
  rcases bindX_some hm with ⟨da, s1, ha, hm⟩ | ⟨x, ha, rfl⟩
  · refine ⟨H0, as, en, st, .ok da, s1, e, w, ha, fun x H1 as1 H1' l1 w1 r1 => ?_⟩
    rcases bindX_some hm with ⟨db, s2, hb, hm⟩ | ⟨x', hb, rfl⟩
    · obtain ⟨⟨d, s3⟩, hf, e3⟩ := Option.map_eq_some_iff.mp hm
      cases e3
      refine ⟨H1, as1, en, s1, .ok db, s2, e.mono l1, w1, hb, fun y H2 as2 H2' l2 w2 r2 => ?_⟩
      exact ok H2 as2 s2 H2' da db x y d _ Q w2 (r1.mono l2) r2 hf (KE.mono (l1.trans l2) k)
    · exact ⟨H1, as1, en, s1, .ex x', _, e.mono l1, w1, hb, KW.mono l1 k⟩
  · exact ⟨H0, as, en, st, .ex x, _, e, w, ha, k⟩
theorem ex_un {r : V → Hp → VK → Prop} {f : D → Sto → Option (D × Sto)} (ok : Ok1 C r f) : eX C (unX f ma) W σ H Q → tUn r (eX C ma W) σ H Q := by
  rintro ⟨H0, as, en, st, r0, st', e, w, hm, k⟩
  rcases bindX_some hm with ⟨da, s1, ha, hm⟩ | ⟨x, ha, rfl⟩
  · refine ⟨H0, as, en, st, .ok da, s1, e, w, ha, fun x H1 as1 H1' l1 w1 r1 => ?_⟩
    obtain ⟨⟨d, s3⟩, hf, e3⟩ := Option.map_eq_some_iff.mp hm
    cases e3
    exact ok H1 as1 s1 H1' da x d _ Q w1 r1 hf (KE.mono l1 k)
  · exact ⟨H0, as, en, st, .ex x, _, e, w, ha, k⟩
theorem ax_nil {Q : List V → Hp → Prop} : aX C nilX W σ H Q → tNil σ H Q := by
  rintro ⟨H0, as, en, st, r0, st', e, w, hm, k⟩
  cases hm
  exact k [] H0 as H Le.refl w rfl
theorem ax_cons {Q : List V → Hp → Prop} {mr : MAx} : aX C (consX ma mr) W σ H Q → tCons (eX C ma W) (aX C mr W) σ H Q := by
  rintro ⟨H0, as, en, st, r0, st', e, w, hm, k⟩
  rcases bindX_some hm with ⟨da, s1, ha, hm⟩ | ⟨x, ha, rfl⟩
  · refine ⟨H0, as, en, st, .ok da, s1, e, w, ha, fun x H1 as1 H1' l1 w1 r1 => ?_⟩
    rcases bindX_some hm with ⟨db, s2, hb, hm⟩ | ⟨x', hb, rfl⟩
    · cases hm
      refine ⟨H1, as1, en, s1, .ok db, _, e.mono l1, w1, hb, fun y H2 as2 H2' l2 w2 r2 => ?_⟩
      exact k (x :: y) H2 as2 H2' (l1.trans l2) w2 ⟨x, y, rfl, r1.mono l2, r2⟩
    · exact ⟨H1, as1, en, s1, .ex x', _, e.mono l1, w1, hb, KW.mono l1 k⟩
  · exact ⟨H0, as, en, st, .ex x, _, e, w, ha, k⟩
theorem ex_cb {r : List V → Hp → VK → Prop} {f : List D → Sto → Option (D × Sto)} (ok : OkC C r f) {m : MAx} : eX C (cbX f m) W σ H Q → tCB r (aX C m W) σ H Q := by
  rintro ⟨H0, as, en, st, r0, st', e, w, hm, k⟩
  rcases bindX_some hm with ⟨da, s1, ha, hm⟩ | ⟨x, ha, rfl⟩
  · obtain ⟨⟨d, s3⟩, hf, e3⟩ := Option.map_eq_some_iff.mp hm
    cases e3
    refine ⟨H0, as, en, st, .ok da, s1, e, w, ha, fun x H1 as1 H1' l1 w1 r1 => ?_⟩
    exact ok H1 as1 s1 H1' da x d _ Q w1 r1 hf (KE.mono l1 k)
  · exact ⟨H0, as, en, st, .ex x, _, e, w, ha, k⟩
theorem ex_tup {m : MAx} : eX C (tupX m) W σ H Q → tTup (aX C m W) σ H Q := by
  rintro ⟨H0, as, en, st, r0, st', e, w, hm, k⟩
  rcases bindX_some hm with ⟨ds, s1, ha, hm⟩ | ⟨x, ha, rfl⟩
  · split at hm
    · rename_i hl
      cases hm
      refine ⟨H0, as, en, st, .ok ds, _, e, w, ha, fun xs H1 as1 H1' l1 w1 r1 => ⟨by rw [← r1.length]; exact hl, (KE.mono l1 k).newT w1 r1⟩⟩
    · cases hm
  · exact ⟨H0, as, en, st, .ex x, _, e, w, ha, k⟩
theorem ex_lst {mu : Bool} {m : MAx} : eX C (lstX mu m) W σ H Q → tLst (aX C m W) σ H Q := by
  rintro ⟨H0, as, en, st, r0, st', e, w, hm, k⟩
  rcases bindX_some hm with ⟨ds, s1, ha, hm⟩ | ⟨x, ha, rfl⟩
  · split at hm
    · rename_i hl
      cases hm
      refine ⟨H0, as, en, st, .ok ds, _, e, w, ha, fun xs H1 as1 H1' l1 w1 r1 => ⟨by rw [← r1.length]; exact hl, (KE.mono l1 k).newA (mu := mu) (ds := ds) rfl w1 r1⟩⟩
    · cases hm
  · exact ⟨H0, as, en, st, .ex x, _, e, w, ha, k⟩
theorem ex_if {mc : MB} : eX C (condX mc ma mb) W σ H Q → tIf (bM C mc) (eX C ma W) (eX C mb W) σ H Q := by
  rintro ⟨H0, as, en, st, d, st', e, w, hm, k⟩
  obtain ⟨⟨b1, s1⟩, ha, hm⟩ := Option.bind_eq_some_iff.mp hm
  refine ⟨H0, as, en, st, b1, s1, e, w, ha, fun H1 as1 H1' l1 w1 => ?_⟩
  have k' : KR (fun d => KE C H1 as1 st' d Q) (fun x => KW C H1 as1 st' en x W) d := by
    cases d with
    | ok d => exact KE.mono l1 k
    | ex x => exact KW.mono l1 k
  dsimp only at hm ⊢
  split
  · rename_i h
    rw [if_pos h] at hm
    exact ⟨H1, as1, en, s1, d, st', e.mono l1, w1, hm, k'⟩
  · rename_i h
    rw [if_neg h] at hm
    exact ⟨H1, as1, en, s1, d, st', e.mono l1, w1, hm, k'⟩

/-! ### calls of defs that raise -/
def spX (C : Cy) (f : MFx) : Sp := fun vs H Q E => ∃ H0 as ds st r st', Reps C H0 as ds vs ∧ WR C H0 as st H ∧ f ds st = some (r, st') ∧ KR (fun d => KE C H0 as st' d Q) (fun x => ∀ H0' as' H' cls d, Le H0 as H0' as' → WR C H0' as' st' H' → ExR C H0' as' x cls d → E cls d H') r
theorem ex_call {f : MFx} {m : MAx} : eX C (callX f m) W σ H Q → tCallSD (spX C f) [] (fun σ cls d H' => W cls d σ H') (aX C m W) σ H Q := by
  rintro ⟨H0, as, en, st, r0, st', e, w, hm, k⟩
  rcases bindX_some hm with ⟨ds, s1, ha, hm⟩ | ⟨x, ha, rfl⟩
  · refine ⟨H0, as, en, st, .ok ds, s1, e, w, ha, fun vs H1 as1 H1' l1 w1 r1 => ?_⟩
    refine ⟨H1, as1, ds, s1, r0, st', by rw [List.append_nil]; exact r1, w1, hm, ?_⟩
    cases r0 with
    | ok d => exact KE.mono l1 k
    | ex x => exact fun H2 as2 H2' cls d l2 w2 r2 => k σ H2 as2 H2' cls d (l1.trans l2) w2 (e.mono (l1.trans l2)) r2
  · exact ⟨H0, as, en, st, .ex x, _, e, w, ha, k⟩
/-- where it raises nothing -/
def pureOf (f : MFx) : List D → Sto → Option (D × Sto) := fun ds st => (f ds st).bind fun p => match p.1 with
  | .ok d => some (d, p.2)
  | .ex _ => none
theorem sp_pure {f : MFx} {vs : List V} {E : XK} : spM C (pureOf f) vs H Q E → spX C f vs H Q E := by
  rintro ⟨H0, as, ds, st, d, st', r, w, hm, k⟩
  obtain ⟨⟨q, s1⟩, h1, h2⟩ := Option.bind_eq_some_iff.mp hm
  cases q with
  | ok d =>
    cases h2
    exact ⟨H0, as, ds, st, .ok d, _, r, w, h1, k⟩
  | ex x => cases h2

/-! ### statements -/
def seqX (a b : MSx) : MSx := fun en st => (a en st).bind fun p => match p.1 with
  | .o (.nx en') => b en' p.2
  | o => some (o, p.2)
def ifX (c : MB) (a b : MSx) : MSx := fun en st => (c en st).bind fun p => if p.1 = true then a en p.2 else b en p.2
def retX (m : MEx) : MSx := fun en st => (m en st).bind fun p => match p.1 with
  | .ok d => some (.o (.rt d), p.2)
  | .ex x => some (.ex en x, p.2)
def dropX (m : MEx) : MSx := fun en st => (m en st).bind fun p => match p.1 with
  | .ok _ => some (.o (.nx en), p.2)
  | .ex x => some (.ex en x, p.2)
def asgX (m : MEx) (g : MG) : MSx := fun en st => (m en st).bind fun p => match p.1 with
  | .ok d => (g d en p.2).map fun q => (.o (.nx q.1), q.2)
  | .ex x => some (.ex en x, p.2)
theorem sx_seq {a b : MSx} {N : Ends} : sX C (seqX a b) W N σ H → tSeq (sX C a W) (sX C b W) N σ H := by
  rintro ⟨H0, as, en, st, o, st', e, w, hm, k⟩
  obtain ⟨⟨o1, s1⟩, ha, hm⟩ := Option.bind_eq_some_iff.mp hm
  refine ⟨H0, as, en, st, o1, s1, e, w, ha, ?_⟩
  cases o1 with
  | ex en1 x => cases hm; exact k
  | o o1 =>
    cases o1 with
    | nx en1 =>
      intro σ1 H1 as1 H1' l1 w1 e1
      refine ⟨H1, as1, en1, s1, o, st', e1, w1, hm, ?_⟩
      cases o with
      | o o => exact KO.mono l1 k
      | ex en2 x => exact KW.mono l1 k
    | rt d => cases hm; exact k
    | bk d => cases hm; exact k
    | ct d => cases hm; exact k
theorem sx_if {mc : MB} {a b : MSx} {N : Ends} : sX C (ifX mc a b) W N σ H → tIfS (bM C mc) (sX C a W) (sX C b W) N σ H := by
  rintro ⟨H0, as, en, st, o, st', e, w, hm, k⟩
  obtain ⟨⟨b1, s1⟩, ha, hm⟩ := Option.bind_eq_some_iff.mp hm
  refine ⟨H0, as, en, st, b1, s1, e, w, ha, fun H1 as1 H1' l1 w1 => ?_⟩
  have k' : KOX C H1 as1 st' N W o := by
    cases o with
    | o o => exact KO.mono l1 k
    | ex en2 x => exact KW.mono l1 k
  dsimp only at hm ⊢
  split
  · rename_i h
    rw [if_pos h] at hm
    exact ⟨H1, as1, en, s1, o, st', e.mono l1, w1, hm, k'⟩
  · rename_i h
    rw [if_neg h] at hm
    exact ⟨H1, as1, en, s1, o, st', e.mono l1, w1, hm, k'⟩
theorem sx_ret {m : MEx} {N : Ends} : sX C (retX m) W N σ H → tRet (eX C m W) N σ H := by
  rintro ⟨H0, as, en, st, o, st', e, w, hm, k⟩
  obtain ⟨⟨r, s1⟩, ha, hm⟩ := Option.bind_eq_some_iff.mp hm
  refine ⟨H0, as, en, st, r, s1, e, w, ha, ?_⟩
  cases r with
  | ok d => cases hm; exact k
  | ex x => cases hm; exact k
theorem sx_drop {m : MEx} {N : Ends} : sX C (dropX m) W N σ H → tDrop (eX C m W) N σ H := by
  rintro ⟨H0, as, en, st, o, st', e, w, hm, k⟩
  obtain ⟨⟨r, s1⟩, ha, hm⟩ := Option.bind_eq_some_iff.mp hm
  refine ⟨H0, as, en, st, r, s1, e, w, ha, ?_⟩
  cases r with
  | ok d =>
    cases hm
    exact fun v H1 as1 H1' l1 w1 _ => k σ H1 as1 H1' l1 w1 (e.mono l1)
  | ex x => cases hm; exact k
theorem sx_asg {m : MEx} {g : MG} {N : Ends} : sX C (asgX m g) W N σ H → tAsg (eX C m W) (gM C g) N σ H := by
  rintro ⟨H0, as, en, st, o, st', e, w, hm, k⟩
  obtain ⟨⟨r, s1⟩, ha, hm⟩ := Option.bind_eq_some_iff.mp hm
  refine ⟨H0, as, en, st, r, s1, e, w, ha, ?_⟩
  cases r with
  | ok d =>
    obtain ⟨⟨en2, s2⟩, hb, e2⟩ := Option.map_eq_some_iff.mp hm
    cases e2
    intro v H1 as1 H1' l1 w1 r1
    exact ⟨H1, as1, en, s1, d, en2, s2, e.mono l1, w1, r1, hb, KS.mono l1 k⟩
  | ex x => cases hm; exact k
open Classical in
noncomputable def forLX (s : Src) (T : Tg) (b : MSx) : List D → MSx
  | [], en, st => if s.ok st then some (.o (.nx en), st) else none
  | d :: r, en, st => if s.ok st then (setTg T d en).bind fun en' => (b en' st).bind fun q => match q.1 with
      | .o (.nx e) => forLX s T b r e q.2
      | .o (.ct e) => forLX s T b r e q.2
      | .o (.bk e) => some (.o (.nx e), q.2)
      | .o (.rt d) => some (.o (.rt d), q.2)
      | .ex e x => some (.ex e x, q.2)
    else none
noncomputable def forX (mi : MI) (T : Tg) (b : MSx) : MSx := fun en st => (mi en st).bind fun p => forLX p.1 T b p.1.ds en p.2
theorem sx_for {N : Ends} {mi : MI} {T : Tg} {mb : MSx} : sX C (forX mi T mb) W N σ H → tFor (iM C mi) (tgM C T) (sX C mb W) N σ H := by
  rintro ⟨H0, as, en, st, o, st', e, w, hm, k⟩
  unfold forX at hm
  obtain ⟨⟨s, s1⟩, hs, hm⟩ := Option.bind_eq_some_iff.mp hm
  refine ⟨H0, as, en, st, s, s1, e, w, hs, fun J H1 as1 H1' l1 w1 it => ?_⟩
  have it := it H1.g
  refine ⟨fun i m σ Hx => ∃ H2 as2 en2 st2, Le H1 as1 H2 as2 ∧ EnR C H2 as2 en2 σ ∧ WR C H2 as2 st2 Hx ∧ forLX s T mb (s.ds.drop i) en2 st2 = some (o, st') ∧ m = s.ds.length - i,
    ⟨s.ds.length, H1, as1, en, s1, Le.refl, e.mono l1, w1, hm, rfl⟩, ?_⟩
  rintro i m σ1 Hx ⟨H2, as2, en2, st2, l2, e2, w2, h2, rfl⟩
  by_cases hi : i < s.ds.length
  · rw [List.drop_eq_getElem_cons hi] at h2
    unfold forLX at h2
    split at h2
    · rename_i hk
      obtain ⟨en3, h3, h2⟩ := Option.bind_eq_some_iff.mp h2
      obtain ⟨⟨o4, st4⟩, h4, h2⟩ := Option.bind_eq_some_iff.mp h2
      obtain ⟨hgo, hy⟩ := (it H2 as2 st2 Hx i l2 w2 hk).1 _ (List.getElem?_eq_getElem hi)
      refine .inr ⟨hgo, fun σ' H' => ∃ H5 as5 en5 st5, Le H1 as1 H5 as5 ∧ EnR C H5 as5 en5 σ' ∧ WR C H5 as5 st5 H' ∧ forLX s T mb (s.ds.drop (i + 1)) en5 st5 = some (o, st'), fun σ' H' ⟨H5, as5, en5, st5, a, b, c, d⟩ => ⟨s.ds.length - (i + 1), by omega, H5, as5, en5, st5, a, b, c, d, rfl⟩, fun x H' y => ?_⟩
      obtain ⟨H3, as3, l3, w3, r3⟩ := hy x H' y
      refine ⟨H3, as3, en2, st2, _, en3, e2.mono l3, w3, r3, h3, fun σ5 _ e5 => ?_⟩
      refine ⟨H3, as3, en3, st2, o4, st4, e5, w3, h4, ?_⟩
      cases o4 with
      | ex en6 x6 =>
        cases h2
        exact KW.mono (l1.trans (l2.trans l3)) k
      | o o4 =>
        cases o4 with
        | nx e' => exact fun σ6 H6 as6 H6' l6 w6 e6 => ⟨H6, as6, e', st4, ((l2.trans l3).trans l6), e6, w6, h2⟩
        | ct e' => exact fun σ6 H6 as6 H6' l6 w6 e6 => ⟨H6, as6, e', st4, ((l2.trans l3).trans l6), e6, w6, h2⟩
        | bk e' =>
          cases h2
          exact fun σ6 H6 as6 H6' l6 w6 e6 => k σ6 H6 as6 H6' (l1.trans ((l2.trans l3).trans l6)) w6 e6
        | rt d =>
          cases h2
          exact fun v H6 as6 H6' l6 w6 r6 => k v H6 as6 H6' (l1.trans ((l2.trans l3).trans l6)) w6 r6
    · cases h2
  · rw [List.drop_eq_nil_of_le (by omega)] at h2
    unfold forLX at h2
    split at h2
    · rename_i hk
      cases h2
      exact .inl ⟨(it H2 as2 _ Hx i l2 w2 hk).2 (by omega), k σ1 H2 as2 Hx (l1.trans l2) w2 e2⟩
    · cases h2
end
end My


namespace My
open PySem PySem.Spec PySem.Calls PyProof.Rows L2
/-! ### keyed lists -/
section
variable {C : Cy} {H : Hb} {as : List Addr}
theorem RepKV.zipS : ∀ (ks : List Str) {ds : List D} {vs : List V}, Reps C H as ds vs → RepKV C H as (ks.zip ds) (ks.zip vs)
  | [], _, _, _ => rfl
  | k :: ks, [], vs, h => by
    cases (show vs = [] from h)
    rfl
  | k :: ks, d :: ds, vs, h => by
    obtain ⟨v, r, rfl, h1, h2⟩ := h
    exact ⟨v, ks.zip r, rfl, h1, RepKV.zipS ks h2⟩
theorem RepKV.app {κ : Type} : ∀ {ds es : List (κ × D)} {vs us : List (κ × V)}, RepKV C H as ds vs → RepKV C H as es us → RepKV C H as (ds ++ es) (vs ++ us)
  | [], _, vs, _, h, k => by
    cases (show vs = [] from h)
    exact k
  | (a, d) :: ds, _, _, _, h, k => by
    obtain ⟨v, r, rfl, h1, h2⟩ := h
    exact ⟨v, r ++ _, rfl, h1, RepKV.app h2 k⟩
theorem RepKV.rev {κ : Type} : ∀ {ds : List (κ × D)} {vs : List (κ × V)}, RepKV C H as ds vs → RepKV C H as ds.reverse vs.reverse
  | [], vs, h => by
    cases (show vs = [] from h)
    rfl
  | (a, d) :: ds, _, h => by
    obtain ⟨v, r, rfl, h1, h2⟩ := h
    rw [List.reverse_cons, List.reverse_cons]
    exact (RepKV.rev h2).app ⟨v, [], rfl, h1, rfl⟩
theorem RepKV.look {f : Str} : ∀ {ds : List (Str × D)} {vs : List (Str × V)} {d : D}, RepKV C H as ds vs → ds.lookup f = some d → ∃ v, vs.lookup f = some v ∧ Rep C H as d v
  | [], _, _, _, e => by cases e
  | (a, d) :: ds, _, d', h, e => by
    obtain ⟨v, r, rfl, h1, h2⟩ := h
    simp only [List.lookup] at e ⊢
    split at e
    · cases e
      exact ⟨v, rfl, h1⟩
    · exact RepKV.look h2 e
end

/-! ### __init__ of an own exception: the fields are the parameters -/
/-- what the __init__ keeps -/
def spI (C : Addr) (fs : List Str) : Sp := fun vs H Q _ => ∃ a ws, vs = .ref a :: ws ∧ ws.length = fs.length ∧ H a = some (exo a C none) ∧
  ∀ d H2, H d = none → d ≠ a → H2 a = some (exo a C (some d)) → H2 d = some (exd d (fs.zip ws).reverse) → (∀ b, b ≠ a → b ≠ d → H2 b = H b) → Q .non H2
def tVars : List Nat → TA
  | [] => tNil
  | i :: r => tCons (tVar i) (tVars r)
def tStores (K : PySem.W.Frag) : List Str → List Nat → TS
  | f :: fs, i :: is => tSeq (tOst K f (tVar 0) (tVar i)) (tStores K fs is)
  | _, _ => tNext
def SlotsAt (σ : L2.St) : List Nat → List V → Prop
  | [], ys => ys = []
  | i :: is, ys => ∃ y r, ys = y :: r ∧ σ[i]? = some (some y) ∧ SlotsAt σ is r
theorem slotsAt_range : ∀ (ws : List V) (pre post : List (Option V)), SlotsAt (pre ++ (ws.map some ++ post)) (List.range' pre.length ws.length) ws
  | [], pre, post => rfl
  | y :: ws, pre, post => by
    refine ⟨y, ws, rfl, by simp, ?_⟩
    have h := slotsAt_range ws (pre ++ [some y]) post
    rw [List.length_append] at h
    simpa [List.append_assoc] using h
theorem vars_ok {σ : L2.St} {H : Hp} : ∀ {is : List Nat} {ys : List V} {Q : List V → Hp → Prop}, SlotsAt σ is ys → Q ys H → tVars is σ H Q
  | [], ys, Q, h, q => by
    cases (show ys = [] from h)
    exact q
  | i :: is, ys, Q, h, q => by
    obtain ⟨y, r, rfl, h1, h2⟩ := h
    exact ⟨y, h1, vars_ok h2 q⟩
theorem stores_old {K : PySem.W.Frag} {C a dx : Addr} {σ : L2.St} {N : Ends} (T : OexC K C) (hda : dx ≠ a) (h0 : σ[0]? = some (some (.ref a))) : ∀ (fs : List Str) (is : List Nat) (ys : List V) (gs : List (Str × V)) (H : Hp),
    SlotsAt σ is ys → fs.length = ys.length → (∀ f ∈ fs, PySem.W.findIn K (.ref C) f = some none) → H a = some (exo a C (some dx)) → H dx = some (exd dx gs) → gs.length + fs.length ≤ 900 →
    (∀ H2, H2 a = some (exo a C (some dx)) → H2 dx = some (exd dx ((fs.zip ys).reverse ++ gs)) → (∀ b, b ≠ a → b ≠ dx → H2 b = H b) → N.nx σ H2) → tStores K fs is N σ H
  | [], is, ys, gs, H, hs, hl, hno, ea, ed, hz, k => by
    have e : tStores K [] is = tNext := by cases is <;> rfl
    rw [e]
    exact k H ea (by simpa using ed) fun _ _ _ => rfl
  | f :: fs, [], ys, gs, H, hs, hl, hno, ea, ed, hz, k => by
    cases (show ys = [] from hs)
    cases hl
  | f :: fs, i :: is, ys, gs, H, hs, hl, hno, ea, ed, hz, k => by
    obtain ⟨y, r, rfl, h1, h2⟩ := hs
    refine ⟨y, h1, .ref a, h0, a, C, rfl, T, hno f (List.mem_cons_self), .inr ⟨dx, gs, ea, ed, by simp at hz; omega, ?_⟩⟩
    refine stores_old T hda h0 fs is r ((f, y) :: gs) _ h2 (by simpa using hl) (fun g hg => hno g (List.mem_cons_of_mem _ hg)) (by rw [upd_ne (Ne.symm hda)]; exact ea) upd_same (by simp at hz ⊢; omega) fun H2 e1 e2 e3 => ?_
    exact k H2 e1 (by simpa [List.append_assoc] using e2) fun b b1 b2 => (e3 b b1 b2).trans (upd_ne b2)
theorem stores_new {K : PySem.W.Frag} {C a : Addr} {σ : L2.St} {N : Ends} (T : OexC K C) (h0 : σ[0]? = some (some (.ref a))) (fs : List Str) (is : List Nat) (ys : List V) (H : Hp)
    (hs : SlotsAt σ is ys) (hl : fs.length = ys.length) (hf : 0 < fs.length) (hno : ∀ f ∈ fs, PySem.W.findIn K (.ref C) f = some none) (ea : H a = some (exo a C none)) (hz : fs.length ≤ 900)
    (k : ∀ dx H2, H dx = none → dx ≠ a → H2 a = some (exo a C (some dx)) → H2 dx = some (exd dx (fs.zip ys).reverse) → (∀ b, b ≠ a → b ≠ dx → H2 b = H b) → N.nx σ H2) : tStores K fs is N σ H := by
  cases fs with
  | nil => cases hf
  | cons f fs =>
    cases is with
    | nil =>
      cases (show ys = [] from hs)
      cases hl
    | cons i is =>
      obtain ⟨y, r, rfl, h1, h2⟩ := hs
      refine ⟨y, h1, .ref a, h0, a, C, rfl, T, hno f (List.mem_cons_self), .inl ⟨ea, fun dx hd hda => ?_⟩⟩
      refine stores_old T hda h0 fs is r [(f, y)] _ h2 (by simpa using hl) (fun g hg => hno g (List.mem_cons_of_mem _ hg)) upd_same (by rw [upd_ne hda, upd_same]) (by simp at hz ⊢; omega) fun H2 e1 e2 e3 => ?_
      exact k dx H2 hd hda e1 (by simpa using e2) fun b b1 b2 => by rw [e3 b b1 b2, upd_ne b1, upd_ne b2]
open NdefX in
theorem x_excinit {P : Program} {w : World} {K : PySem.W.Frag} {mg : Str → Option Value} {base : Heap} {k : Nat} {f C cc cda : Addr} {name qual : Str} {params : Arguments} {scope : Scope} {kV doc pm ct oc : Value} {an od : Option Addr} {osl : Array (Option Value)} {N ps fs : List Str}
    {e : Expr} {es : List Expr} {rest : List Stmt} {q0 q1 ap cp ep : Pos} {ar : Arg} {pl : Sem Bool}
    (lk : K.lookup f = some ⟨oc, od, .func (PySem.W.ksFn name qual params (.Expr (.Call (.Attribute (.Call (.Name "super" q0) [] [] q1) "__init__" ap) (e :: es) [] cp) ep :: rest) scope .none kV doc pm an (.ref cda) ct cc), osl⟩)
    (hcd : PySem.W.codeIn K (.ref cda) qual = true) (Z : SupC P K C cc cda) (S : NScope N ps ["__class__"] scope) (hp : (params.posonlyargs ++ params.args).head? = some ar) (hps : ps[0]? = some ar.arg)
    (hks : scope.names.lookup ("super" : Str) = some .globalImplicit) (hmg : mg "super" = none)
    (hlen : ps.length = fs.length + 1) (hf : 0 < fs.length) (hz : fs.length ≤ 900) (hno : ∀ f ∈ fs, PySem.W.findIn K (.ref C) f = some none)
    (hA : ∀ X : Cx, X.N = N → X.env.scope = scope → PA X (e :: es) (tVars (List.range' 1 fs.length)))
    (hT : ∀ X : Cx, X.N = N → X.env.scope = scope → X.K = K → PSs X rest (tStores K fs (List.range' 1 fs.length)))
    (hst : ∀ env : Env, starEach (e :: es) env = (false, eval e env) :: starEach es env) (hpl : ∀ env : Env, (backTo cp (starEach es env)).any (·.1) = false)
    (hev : ∀ env : Env, eval (.Call (.Attribute (.Call (.Name "super" q0) [] [] q1) "__init__" ap) (e :: es) [] cp) env = (do
      let ov ← attributeBase (.Call (.Name "super" q0) [] [] q1) "__init__" env (eval (.Call (.Name "super" q0) [] [] q1) env)
      standAt ap.atName
      let (f, first) ← holding [ov] (getMethod ov "__init__" pl)
      callWith cp f first (backTo cp (starEach (e :: es) env)) []))
    (hsw : ∀ env : Env, swapsWith (.Call (.Attribute (.Call (.Name "super" q0) [] [] q1) "__init__" ap) (e :: es) [] cp) none ep.line env = pure false) :
    FnOk P w K mg base CX0 (k + 1) f (PySem.W.ksFn name qual params (.Expr (.Call (.Attribute (.Call (.Name "super" q0) [] [] q1) "__init__" ap) (e :: es) [] cp) ep :: rest) scope .none kV doc pm an (.ref cda) ct cc) ps (spI C fs) := by
  refine x_init (p0 := ar.arg) lk hcd Z S hp hps hks hmg (fun vs H Q E h => ?_) (fun A outer s H vs Q E hr hsp => ?_) hst hpl hev hsw
  · obtain ⟨a, ws, rfl, hl, ha, _⟩ := h
    exact ⟨by rw [List.length_cons, hl, hlen], a, ws, rfl, ha⟩
  · refine ⟨_, _, hA _ rfl rfl, hT _ rfl rfl rfl, ?_⟩
    obtain ⟨a, ws, rfl, hl, ha, hq⟩ := hsp
    have s0 : (startF N (.ref a :: ws) [none])[0]? = some (some (.ref a)) := rfl
    have ss : SlotsAt (startF N (.ref a :: ws) [none]) (List.range' 1 fs.length) ws := by
      have h := slotsAt_range ws [some (.ref a)] ([none] ++ List.replicate (N.length - (V.ref a :: ws).length - [(none : Option V)].length) none)
      rw [hl] at h
      exact h
    refine vars_ok ss ⟨by omega, fun a' r' er => ?_, ?_⟩
    · cases er
      exact ha
    · exact stores_new Z.T s0 fs _ ws H ss hl.symm hf hno ha hz fun dx H2 h1 h2 h3 h4 h5 => hq dx H2 h1 h2 h3 h4 h5

/-! ### raise C(e, ..) -/
def mRaise (c : Str) (fs : List Str) (ma : MA) : MSx := fun en st => (ma en st).bind fun p => if p.1.length = fs.length ∧ p.1.length ≤ 1000 then some (.ex en ⟨c, (fs.zip p.1).reverse⟩, p.2) else none
theorem sx_raise {C : Cy} {N : Ends} {σ : L2.St} {H : Hp} {W : WX} {c : Str} {fs : List Str} {ma : MA} {Ca : Addr} (hns : PySem.W.nsIn C.K mainGlobals c = some (some (.ref Ca))) :
    sX C (mRaise c fs ma) W N σ H → tMkO Ca (spI Ca fs) [] (aM C ma) σ H fun cls d H' => W cls d σ H' := by
  rintro ⟨H0, as, en, st, o, st', e, w, hm, k⟩
  obtain ⟨⟨ds, s1⟩, ha, hm⟩ := Option.bind_eq_some_iff.mp hm
  dsimp only at hm
  split at hm
  · rename_i hl
    cases hm
    refine ⟨H0, as, en, st, ds, _, e, w, ha, fun vs H1 as1 H1' l1 w1 r1 => ⟨by rw [← r1.length]; exact hl.2, fun a hn => ?_⟩⟩
    refine ⟨a, vs, by rw [List.append_nil], by rw [← r1.length]; exact hl.1, upd_same, fun d H2 hd hda ea ed hb => ?_⟩
    have hd' : H1' d = none := by
      rw [upd_ne hda] at hd
      exact hd
    refine ⟨rfl, d, _, ea, ed, hd', ?_⟩
    have E : upd (L2.del H2 a) d (.xd (fs.zip vs).reverse) = upd H1' d (.xd (fs.zip vs).reverse) := by
      funext b
      by_cases h1 : b = d
      · rw [h1, upd_same, upd_same]
      · rw [upd_ne h1, upd_ne h1]
        by_cases h2 : b = a
        · rw [h2, del_same, hn]
        · rw [del_ne h2, hb b h2 h1, upd_ne h2]
    rw [E]
    obtain ⟨w2, l2⟩ := w1.grow (o := .xd (fs.zip vs).reverse) hd'
    exact k σ _ _ _ _ _ (l1.trans l2) w2 (e.mono (l1.trans l2)) ⟨⟨Ca, rfl, hns⟩, d, _, rfl, upd_same, (RepKV.zipS fs (r1.mono l2)).rev⟩
  · cases hm

/-! ### defs that raise -/
open Classical in
noncomputable def settleF (st0 : Sto) (x : Ex) (st : Sto) : Sto :=
  if st.length ≤ st0.length then st
  else if clos st0.length (x.fs.map (·.2)) = true ∧ ∀ i, i < st0.length → st[i]? = st0[i]? ∨ ∃ o, st[i]? = some o ∧ cloO st0.length o = true then st.take st0.length else st
theorem settleF_ok {C : Cy} {H0 H1 : Hb} {as0 as1 : List Addr} {st0 st1 : Sto} {x : Ex} {cls : Value} {d : Option Addr} {Hx Hy : Hp} (w0 : WR C H0 as0 st0 Hx) (l : Le H0 as0 H1 as1) (w1 : WR C H1 as1 st1 Hy) (r : ExR C H1 as1 x cls d) :
    ∃ as2, Le H0 as0 H1 as2 ∧ WR C H1 as2 (settleF st0 x st1) Hy ∧ ExR C H1 as2 x cls d := by
  unfold settleF
  split
  · exact ⟨as1, l, w1, r⟩
  · rename_i hl
    split
    · rename_i hc
      have e0 : as1.take st0.length = as0 := by
        obtain ⟨t, rfl⟩ := l.pre
        rw [← w0.len]
        exact List.take_left' rfl
      obtain ⟨r1, dd, gs, r2, r3, r4⟩ := r
      have rc := r4.cut hc.1
      rw [e0] at rc
      refine ⟨as0, ⟨l.same, l.gh, List.prefix_rfl⟩, ⟨w1.ex, w0.nd, ?_, fun a ha => ?_, fun m a o ha ho => ?_, fun q hq => ?_⟩, r1, dd, gs, r2, r3, rc⟩
      · rw [List.length_take, w0.len]
        omega
      · exact w1.liv a (l.pre.subset ha)
      · have hm : m < st0.length := by
          have := (List.getElem?_eq_some_iff.mp ha).1
          rw [w0.len] at this
          exact this
        rw [List.getElem?_take_of_lt hm] at ho
        rcases w1.own m a o (pre_get l.pre ha) ho with z | ⟨z, u, h1, h2⟩
        · exact .inl z
        · rcases hc.2 m hm with q | ⟨o', q1, q2⟩
          · rw [ho] at q
            rcases w0.own m a o ha q.symm with z' | ⟨z', u', h1', h2'⟩
            · exact .inl z'
            · have h3 := h2.cut (w0.len ▸ h2'.clo)
              rw [e0] at h3
              exact .inr ⟨z, u, h1, h3⟩
          · rw [ho] at q1
            cases q1
            have h3 := h2.cut q2
            rw [e0] at h3
            exact .inr ⟨z, u, h1, h3⟩
      · obtain ⟨h1, h2, h3⟩ := w1.gho q hq
        exact ⟨h1, fun z => h2 (l.pre.subset z), h3⟩
    · exact ⟨as1, l, w1, r⟩
noncomputable def mDefX (N n : Nat) (b : MSx) : MFx := fun ds st => if ds.length = n then (b (ds.map some ++ List.replicate (N - ds.length) none) st).bind fun p => match p.1 with
  | .o (.rt d) => some (.ok (settle st d p.2).1, (settle st d p.2).2)
  | .o (.nx _) => some (.ok (settle st .non p.2).1, (settle st .non p.2).2)
  | .ex _ x => some (.ex x, settleF st x p.2)
  | _ => none
else none
section
variable {P : Program} {w : World} {K : PySem.W.Frag} {mg : Str → Option Value} {base : Heap}
theorem x_defX {x qual : Str} {st : Stmt} {f : Addr} {fd : FuncData} {N ps : List Str} {k nN nP : Nat} {mb : MSx} (F : Fun K x qual st f fd) (S : FnScope N ps (defScope st)) (eN : N.length = nN) (eP : ps.length = nP)
    (body : ∀ (cdv : Value) (A : Around) (outer : List Env) (s : Shared) (H : Hp) (E : XK), Room k (A.deeper (envOfC qual (defScope st) s.heap.objs.size f cdv)) →
      Takes (cxOf (L2.CX P w) P w K mg base N qual (defScope st) f cdv A outer s H E) (fun cls d _ H => E cls d H) →
      PSs (cxOf (L2.CX P w) P w K mg base N qual (defScope st) f cdv A outer s H E) (defBody st) (sX ⟨K, P, w⟩ mb (fun cls d _ H => E cls d H))) : FnOk P w K mg base (L2.CX P w) (k + 1) f fd ps (spX ⟨K, P, w⟩ (mDefX nN nP mb)) := by
  subst eN eP
  have len : ∀ {ds : List D} {st : Sto} {r : RX D × Sto}, mDefX N.length ps.length mb ds st = some r → ds.length = ps.length := by
    intro ds st r h
    unfold mDefX at h
    split at h
    · assumption
    · cases h
  refine F.okX S (fun vs H Q E ⟨H0, as, ds, st, d, st', r, _, h, _⟩ => by rw [← r.length]; exact len h) fun cdv A outer s H vs Q E hr h => ⟨_, body cdv A outer s H E hr (takes_of rfl rfl rfl rfl), ?_⟩
  obtain ⟨H0, as, ds, st, r0, st', r, w0, hm, kq⟩ := h
  have hl := len hm
  unfold mDefX at hm
  rw [if_pos hl] at hm
  obtain ⟨⟨o, s1⟩, h1, hm⟩ := Option.bind_eq_some_iff.mp hm
  refine ⟨H0, as, _, st, o, s1, start_env r, w0, h1, ?_⟩
  cases o with
  | ex en x =>
    cases hm
    intro σ1 H1 as1 H1' cls d l1 w1 e1 r1
    obtain ⟨as2, l2, w2, r2⟩ := settleF_ok w0 l1 w1 r1
    exact kq H1 as2 H1' cls d l2 w2 r2
  | o o =>
    cases o with
    | nx en =>
      cases hm
      intro σ1 H1 as1 H1' l1 w1 e1
      exact settle_ok w0 l1 w1 (d := .non) (v := .non) rfl rfl kq
    | rt d1 =>
      cases hm
      intro v H1 as1 H1' l1 w1 r1
      exact settle_ok w0 l1 w1 r1 rfl kq
    | bk en => cases hm
    | ct en => cases hm
end

/-! ### rules -/
section
variable {X : Cx} {W : WX} {e a b : Expr} {es : List Expr} {pos : Pos}
theorem lp {m : ME} (h : PE X e (eM (cyOf X) m)) : PE X e (eX (cyOf X) (lE m) W) := PE.imp h fun _ _ _ => ex_lift
theorem lps {st : List Stmt} {m : MS} (h : PSs X st (sM (cyOf X) m)) : PSs X st (sX (cyOf X) (lS m) W) := PSs.imp h fun _ _ _ => sx_lift
theorem lp1 {st : Stmt} {m : MS} (h : PS X st (sM (cyOf X) m)) : PS X st (sX (cyOf X) (lS m) W) := PS.imp h fun _ _ _ => sx_lift
theorem lpa {m : MA} (h : PA X es (aM (cyOf X) m)) : PA X es (aX (cyOf X) (lA m) W) := PA.imp h fun _ _ _ => ax_lift
theorem xa_nil : PA X [] (aX (cyOf X) nilX W) := PA.imp pa_nil fun _ _ _ => ax_nil
theorem xa_cons {ma : MEx} {mr : MAx} (ha : PE X e (eX (cyOf X) ma W)) (hr : PA X es (aX (cyOf X) mr W)) (hs : starEach (e :: es) X.env = (false, eval e X.env) :: starEach es X.env := by rfl) : PA X (e :: es) (aX (cyOf X) (consX ma mr) W) := PA.imp (pa_cons ha hr hs) fun _ _ _ => ax_cons
theorem xx_call {k : Nat} {f : Addr} {fd : FuncData} {ps : List Str} {x : Str} {p : Pos} {g : MFx} {ma : MAx} (G : FnOk X.prog X.w X.K X.mg X.base (L2.CX X.prog X.w) k f fd ps (spX (cyOf X) g)) (tk : Takes X W) (hr : Room k X.A) (hg : Gl X x) (hm : X.mg x = some (.ref f)) (hk : PySem.W.keepIn X.K (.ref f) = true) (hb : Binds X.K fd ps [])
    (ha : PA X (e :: es) (aX (cyOf X) ma W)) (hdb : (x == ("__debug__" : Str)) = false := by decide) (he : starEach (e :: es) X.env = (false, eval e X.env) :: starEach es X.env := by rfl) (hpl : (backTo pos (starEach es X.env)).any (·.1) = false := by rfl) :
    PE X (.Call (.Name x p) (e :: es) [] pos) (eX (cyOf X) (callX g ma) W) :=
  PE.imp (pe_callSD (E := fun σ cls d H' => W cls d σ H') G hr hg hm hk hb .nil (fun σ pins H s e s' I c => tk e s' (XE.of_call I (fun _ _ _ h => h) c)) ha hdb he hpl) fun _ _ _ => ex_call
/-- a raising def where it does not raise -/
theorem x_callP {k : Nat} {f : Addr} {fd : FuncData} {ps : List Str} {x : Str} {p : Pos} {g : MFx} {ma : MA} (G : FnOk X.prog X.w X.K X.mg X.base (L2.CX X.prog X.w) k f fd ps (spX (cyOf X) g)) (hr : Room k X.A) (hg : Gl X x) (hm : X.mg x = some (.ref f)) (hk : PySem.W.keepIn X.K (.ref f) = true) (hb : Binds X.K fd ps [])
    (ha : PA X (e :: es) (aM (cyOf X) ma)) (hdb : (x == ("__debug__" : Str)) = false := by decide) (he : starEach (e :: es) X.env = (false, eval e X.env) :: starEach es X.env := by rfl) (hpl : (backTo pos (starEach es X.env)).any (·.1) = false := by rfl) :
    PE X (.Call (.Name x p) (e :: es) [] pos) (eM (cyOf X) (mCb (pureOf g) ma)) := by
  refine PE.imp (pe_call (G.imp fun _ _ _ _ => sp_pure) hr hg hm hk hb .nil passL ha hdb he hpl) fun σ H Q => ?_
  rintro ⟨H0, as, en, st, d, st', e, w, hm, k⟩
  unfold mCb at hm
  obtain ⟨⟨da, s1⟩, ha, hm⟩ := Option.bind_eq_some_iff.mp hm
  refine ⟨H0, as, en, st, da, s1, e, w, ha, fun vs H1 as1 H1' l1 w1 r1 => ?_⟩
  exact ⟨H1, as1, da, s1, d, st', by rw [List.append_nil]; exact r1, w1, hm, k.mono l1⟩
theorem xx_ix {ma mb : MEx} (ha : PE X a (eX (cyOf X) ma W)) (hb : PE X b (eX (cyOf X) mb W)) (hs : PlainIx b := by exact fun _ _ => rfl) : PE X (.Subscript a b pos) (eX (cyOf X) (opX fIx ma mb) W) := PE.imp (pe_ix ix_A ha hb hs) fun _ _ _ => ex_op ok_ix
theorem xx_tup {k : Nat} {mr : MAx} (h : PA X es (aX (cyOf X) mr W)) : PE X (.Tuple es k pos) (eX (cyOf X) (tupX mr) W) := PE.imp (pe_tup h) fun _ _ _ => ex_tup
theorem xx_lst (mu : Bool) {mr : MAx} (h : PA X es (aX (cyOf X) mr W)) : PE X (.List es pos) (eX (cyOf X) (lstX mu mr) W) := PE.imp (pe_lst h) fun _ _ _ => ex_lst
theorem xx_if {c : Expr} {mc : MB} {ma mb : MEx} (hc : PT X c (bM (cyOf X) mc)) (ha : PE X a (eX (cyOf X) ma W)) (hb : PE X b (eX (cyOf X) mb W)) : PE X (.IfExp c a b pos) (eX (cyOf X) (condX mc ma mb) W) := PE.imp (pe_ifExp hc ha hb) fun _ _ _ => ex_if
theorem xs_nil : PSs X [] (sX (cyOf X) (lS mNext) W) := lps z_nil
theorem xs_cons {st : Stmt} {rest : List Stmt} {m1 m2 : MSx} (h1 : PS X st (sX (cyOf X) m1 W)) (h2 : PSs X rest (sX (cyOf X) m2 W)) : PSs X (st :: rest) (sX (cyOf X) (seqX m1 m2) W) := PSs.imp (pss_cons h1 h2) fun _ _ _ => sx_seq
theorem xs_one {st : Stmt} {m1 : MSx} (h1 : PS X st (sX (cyOf X) m1 W)) : PSs X [st] (sX (cyOf X) m1 W) := pss_one h1
theorem xs_ret {me : MEx} (he : PE X e (eX (cyOf X) me W)) : PS X (.Return (some e) pos) (sX (cyOf X) (retX me) W) := PS.imp (ps_ret he) fun _ _ _ => sx_ret
theorem xs_expr {me : MEx} (he : PE X e (eX (cyOf X) me W)) (hs : swapsWith e none pos.line X.env = pure false := by rfl) : PS X (.Expr e pos) (sX (cyOf X) (dropX me) W) := PS.imp (ps_expr he hs) fun _ _ _ => sx_drop
theorem xs_if {c : Expr} {sa sb : List Stmt} {mc : MB} {m1 m2 : MSx} (hc : PT X c (bM (cyOf X) mc)) (ha : PSs X sa (sX (cyOf X) m1 W)) (hb : PSs X sb (sX (cyOf X) m2 W)) : PS X (.If c sa sb pos) (sX (cyOf X) (ifX mc m1 m2) W) := PS.imp (ps_if hc ha hb) fun _ _ _ => sx_if
theorem xs_set {x : Str} {pos' : Pos} {me : MEx} (i : Nat) (hN : X.N.Nodup) (hi : X.N[i]? = some x) (hx : Loc X.env.scope x) (he : PE X e (eX (cyOf X) me W)) (hs : swapsWith e (some (.Name x pos')) pos.line X.env = pure false := by rfl) (hf : X.fn x = true ∨ X.env.scope.names.lookup x = some .local := by first | exact .inl rfl | exact .inr rfl | assumption) :
    PS X (.Assign [.Name x pos'] e pos) (sX (cyOf X) (asgX me (mgName i)) W) := PS.imp (ps_set hN hi hx he hs hf) fun N σ H h => by
  have h2 := sx_asg h
  obtain ⟨H0, as, en, st, r, st', e, w, hm, k⟩ := h2
  refine ⟨H0, as, en, st, r, st', e, w, hm, ?_⟩
  cases r with
  | ok d => exact fun v H1 as1 H1' l1 w1 r1 => gm_name (k v H1 as1 H1' l1 w1 r1)
  | ex x => exact k
theorem xs_asg {tg : Expr} {me : MEx} {g : MG} (he : PE X e (eX (cyOf X) me W)) (hg : PG X tg (gM (cyOf X) g)) (hs : swapsWithSole [tg] e pos.line X.env = pure false := by rfl) (hw : swappedStores [tg] e X.env = pure none := by rfl)
    (h1 : (assignEach [tg] X.env).map (·.2) = [assign tg X.env] := by rfl) : PS X (.Assign [tg] e pos) (sX (cyOf X) (asgX me g) W) := PS.imp (ps_asg he hg hs hw h1) fun _ _ _ => sx_asg
theorem xs_for {tg iter : Expr} {body : List Stmt} {mi : MI} {T : Tg} {m1 : MSx} (hp : PassesOwn (model X.prog X.w) X.A X.env X.xe) (hc : X.calm = true) (hi : PI X tg iter (iM (cyOf X) mi)) (hg : PG X tg (tgM (cyOf X) T)) (hb : PSs X body (sX (cyOf X) m1 W))
    (hs : ∀ x, foldedSetIterable iter X.env x = pure x := by intro _; rfl) : PS X (.For tg iter body [] pos) (sX (cyOf X) (forX mi T m1) W) := PS.imp (ps_for hp hc hi hg hb hs) fun _ _ _ => sx_for
theorem xs_raise {k : Nat} {f Ca : Addr} {fd : FuncData} {ps fs : List Str} {x : Str} {p pos2 : Pos} {ma : MA} (hc : X.calm = true) (tk : Takes X W) (T : OexC X.K Ca) (hns : PySem.W.nsIn X.K mainGlobals x = some (some (.ref Ca))) (iC : PySem.W.findIn X.K (.ref Ca) "__init__" = some (some (.ref f))) (tI : PySem.W.typeIn X.K (.ref f) = some (.type "function"))
    (F1 : FnOk X.prog X.w X.K X.mg X.base CX0 k f fd ps (spI Ca fs)) (hr : Room (k + 1) X.A) (hb : Binds X.K fd ps []) (hg : Gl X x) (hm : X.mg x = some (.ref Ca)) (ha : PA X (e :: es) (aM (cyOf X) ma))
    (hdb : (x == ("__debug__" : Str)) = false := by decide) (he : starEach (e :: es) X.env = (false, eval e X.env) :: starEach es X.env := by rfl) (hpl : (backTo pos (starEach es X.env)).any (·.1) = false := by rfl) :
    PS X (.Raise (some (.Call (.Name x p) (e :: es) [] pos)) none pos2) (sX (cyOf X) (mRaise x fs ma) W) :=
  PS.imp (ps_raise hc tk (pmk_oex T iC tI F1 hr hb .nil (fun _ _ _ _ _ _ _ h => h.elim) hg hm ha hdb he hpl)) fun _ _ _ => sx_raise hns
end
end My


namespace My
open PySem PySem.Spec PySem.Calls PyProof.Rows L2
/-! ### try with several clauses, each with a name or without -/
def endsO : Option Nat → Ends → Ends
  | none, N => N
  | some i, N => { nx := fun σ' H' => N.nx (σ'.set i none) H', rt := N.rt, bk := fun σ' H' => N.bk (σ'.set i none) H', ct := fun σ' H' => N.ct (σ'.set i none) H' }
def slotO : Option Nat → Addr → L2.St → L2.St
  | none, _, σ => σ
  | some i, a, σ => σ.set i (some (.ref a))
abbrev ClV := Value × Option Nat × (Addr → Value → Option Addr → TS)
/-- what the clauses wish of an exception of the body, one after the other -/
def wCl (K : PySem.W.Frag) (Wout : WX) (N : Ends) : List ClV → WX
  | [] => Wout
  | (c, oi, ts) :: r => fun cls d σ H => ∃ b, PySem.W.exmOne K cls c = some b ∧ (b = true → ∀ a, H a = none → ts a cls d (endsO oi N) (slotO oi a σ) H) ∧ (b = false → wCl K Wout N r cls d σ H)
inductive HdsCl (X : Cx) : List ExceptHandler → List ClV → Prop
  | nil : HdsCl X [] []
  | plain {x : Str} {c : Value} {ts : Addr → Value → Option Addr → TS} {b₀ : Stmt} {suite : List Stmt} {np pos' : Pos} {hds : List ExceptHandler} {l : List ClV} (hc : Names X x c)
      (hsu : ∀ (a : Addr) (oe : Obj) (cls : Value) (d : Option Addr) (pn : List (Addr × Obj)), Zc cls d oe → (∃ vs, oe.data = .fields vs) → PSs (X.suite a ((a, oe) :: pn)) (b₀ :: suite) (ts a cls d)) (r : HdsCl X hds l) :
      HdsCl X (.ExceptHandler (some (.Name x np)) none (b₀ :: suite) pos' :: hds) ((c, none, ts) :: l)
  | named {x n : Str} {c : Value} {i : Nat} {ts : Addr → Value → Option Addr → TS} {b₀ : Stmt} {suite : List Stmt} {np pos' : Pos} {hds : List ExceptHandler} {l : List ClV} (hc : Names X x c) (hi : X.N[i]? = some n) (hln : X.env.kindOf n = some .local)
      (hsu : ∀ (a : Addr) (oe : Obj) (cls : Value) (d : Option Addr) (pn : List (Addr × Obj)), Zc cls d oe → (∃ vs, oe.data = .fields vs) → PSs (X.suite a ((a, oe) :: pn)) (b₀ :: suite) (ts a cls d)) (r : HdsCl X hds l) :
      HdsCl X (.ExceptHandler (some (.Name x np)) (some n) (b₀ :: suite) pos' :: hds) ((c, some i, ts) :: l)
section
variable {X : Cx} {body : List Stmt} {h₀ : ExceptHandler} {hds : List ExceptHandler} {l : List ClV} {pos : Pos} {tb : WX → TS} {Wout : WX}
theorem ps_try_cl (hs : X.stack = X.env :: X.outer) (hf : X.env.frame = some X.env.locals) (hN : X.N.Nodup) (tk : Takes X Wout)
    (hb : ∀ (W : WX) (pn : List (Addr × Obj)) (xe : Value → Shared → Prop), Takes (X.tr pn xe) W → PassesOwn (model X.prog X.w) X.A X.env xe → PSs (X.tr pn xe) body (tb W))
    (hh : HdsCl X (h₀ :: hds) l) : PS X (.Try body (h₀ :: hds) [] [] pos) (fun N σ H => tb (wCl X.K Wout N l) N σ H) := by
  refine ⟨fun pins s σ H D I h => ?_⟩
  have ok := I.ok
  have hfr : X.A.frames = some (X.env :: X.outer) := by rw [ok.frames, hs]
  refine wpAny_Try_except ?_
  refine wpAny_mono ((hb (wCl X.K Wout D l) (X.pn ++ pins) (fun e s₁ => wpAny (model X.prog X.w) X.A (noteFrame e X.env) (fun _ s₂ => wpAny (model X.prog X.w) X.A (setFlight e none) (fun _ s₃ =>
    wpAny (model X.prog X.w) X.A (handleBy e X.env (h₀ :: hds)) (SP X pins D) X.xe s₃) X.xe s₂) X.xe s₁) (fun u s' xx => ?_) PassesOwn.looking).run [] s σ H D (I.toTry _) h) (fun f s1 hsp => ?_) (fun e s1 he => he)
  · -- the catch
    obtain ⟨a, B, sI, pins', σ', H', cls, d, rfl, J', nb, up, sky, na, os, ag, w⟩ := xx
    have J : Inv X pins σ' H' sI := J'.ofTry ok
    have sky' : Sky B (X.env :: X.outer) a (Zc cls d) X.env.locals s'.heap := by rw [← hs]; exact sky
    show wpAny (model X.prog X.w) X.A (noteFrame (.ref a) X.env) _ _ _
    refine Sky.land Zc.steady hfr hf sky' fun h3 fl3 up3 => ?_
    have J3 : Inv X pins σ' H' { s' with heap := h3 } := J.landed nb fl3.1 (up.trans up3) os ag
    obtain ⟨oe3, vs3, he3, hz3, hd3⟩ := fl3.there
    have notFr : ∀ {h : Heap} {o : Obj} {vs : Array Value}, h.FunFrames B (X.env :: X.outer) → h.get? a = some o → o.data = .fields vs → a ∉ frs (X.env :: X.outer) := fun {h o vs} ff e dd hm => by
      obtain ⟨_, o', e', hnf⟩ := ff.mem hm
      rw [e] at e'; cases e'
      exact hnf _ dd
    have nfr := notFr fl3.2.2.1 he3 hd3
    have nL : a ≠ X.env.locals := fun z => nfr (List.mem_filterMap.mpr ⟨X.env, List.mem_cons_self, by rw [hf, z]⟩)
    have nF : a ∉ X.fs := fun hm => by
      obtain ⟨e, he, q⟩ := List.mem_filterMap.mp hm
      exact nfr (List.mem_filterMap.mpr ⟨e, List.mem_cons_of_mem _ he, q⟩)
    have S3 := J3.suite he3 hd3 na nL nF
    have LT : PySem.W.Looks (model X.prog X.w) h3 (typeOf (.ref a)) cls := fun A Q E s k q => wpAny_typeOf_ref (k _ _ he3) (by rw [hz3.1]; exact q)
    have test : ∀ {x : Str} {np : Pos} {c : Value} {Q : Value → Shared → Prop} {E : Value → Shared → Prop}, Names X x c → Q c { s' with heap := h3 } → wpAny (model X.prog X.w) (X.A.mark (some (.ref a))) (eval (.Name x np) X.env) Q E { s' with heap := h3 } := fun {x np c Q E} hc q => by
      obtain ⟨hg, hdbg, hm | ⟨hm, hv, hnn⟩⟩ := hc
      · exact ld_glob (X := X.suite a ((a, oe3) :: (X.pn ++ pins))) S3 hg hm q hdbg
      · exact ld_blt (X := X.suite a ((a, oe3) :: (X.pn ++ pins))) S3 hg hm hv q hnn hdbg
    have go : ∀ {hds' : List ExceptHandler} {l' : List ClV}, HdsCl X hds' l' → wCl X.K Wout D l' cls d σ' H' →
        wpAny (model X.prog X.w) X.A (handleBy (.ref a) X.env hds') (SP X pins D) X.xe { s' with heap := h3 } := by
      intro hds' l' hk
      induction hk with
      | nil =>
        intro w
        refine wpAny_handleBy_nil ?_
        obtain ⟨k1, k2, k3, oe, vs, T, oT, ts', he, hz, hd, h1, hr⟩ := id fl3
        unfold PySem.passOn
        refine wpAny_bind (wpAny_field he hd h1 ?_)
        rw [if_neg (show ¬ ((Value.ref T == Value.none) = true) from by simp)]
        have fin : wpAny (model X.prog X.w) X.A (setFlight (.ref a) X.env.frame) (fun _ s4 => wpAny (model X.prog X.w) X.A (throw (.ref a) : Sem Flow) (SP X pins D) X.xe s4) X.xe { s' with heap := h3 } := by
          rw [hf]
          refine HandSPX.setFlight_upZ fl3 fun h4 hh4 up4 => wpAny_throw (tk _ _ ?_)
          exact ⟨a, B, sI, pins, σ', H', cls, d, rfl, J, nb, (up.trans up3).trans up4, .inr (.inr (by rw [hs]; exact hh4)), na, os, ag, w⟩
        first
          | exact wpAny_bind (wpAny_pure (wpAny_bind fin))
          | exact wpAny_bind fin
      | @plain x c ts b₀ suite np pos' hds2 l2 hc hsu r ih =>
        intro w
        obtain ⟨b, hb1, hyes, hno⟩ := w
        refine wpAny_handleBy_cons (codeAny_handlers_test ?_) (by intro q; cases q)
        have LM := PySem.W.exm_one (M := model X.prog X.w) (J3.kIn) LT hb1
        refine test hc (LM.here ?_)
        cases b with
        | true =>
          refine codeAny_handlers_suite ?_
          refine HandSPX.lands_againZ fl3 fun h4 fl4 up4 => ?_
          have J4 : Inv X pins σ' H' { s' with heap := h4 } := J.landed nb fl4.1 ((up.trans up3).trans up4) os ag
          obtain ⟨oe4, vs4, he4, hz4, hd4⟩ := fl4.there
          have S4 := J4.suite he4 hd4 na nL nF
          refine wpAny_mono ((hsu a oe4 cls d (X.pn ++ pins) hz4 ⟨_, hd4⟩).run [] _ _ H' _ S4 (hyes rfl a na)) (fun f s6 hsp => ?_) (fun _ _ z => False.elim z)
          cases f with
          | next =>
            obtain ⟨σ6, H6, S6, q6⟩ := hsp
            exact ⟨_, _, S6.unsuite ok, q6⟩
          | brk =>
            obtain ⟨σ6, H6, S6, q6⟩ := hsp
            exact ⟨_, _, S6.unsuite ok, q6⟩
          | cont =>
            obtain ⟨σ6, H6, S6, q6⟩ := hsp
            exact ⟨_, _, S6.unsuite ok, q6⟩
          | ret u =>
            obtain ⟨v6, σ6, H6, S6, r6, q6⟩ := hsp
            exact ⟨_, _, _, S6.unsuite ok, r6, q6⟩
        | false =>
          show wpAny _ X.A (handleBy (.ref a) X.env hds2) _ _ _
          exact ih (hno rfl)
      | @named x n c i ts b₀ suite np pos' hds2 l2 hc hi hln hsu r ih =>
        intro w
        obtain ⟨b, hb1, hyes, hno⟩ := w
        refine wpAny_handleBy_cons (codeAny_handlers_test ?_) (by intro q; cases q)
        have LM := PySem.W.exm_one (M := model X.prog X.w) (J3.kIn) LT hb1
        refine test hc (LM.here ?_)
        cases b with
        | true =>
          refine codeAny_handlers_suite_as ?_
          refine HandSPX.lands_againZ fl3 fun h4 fl4 up4 => ?_
          have J4 : Inv X pins σ' H' { s' with heap := h4 } := J.landed nb fl4.1 ((up.trans up3).trans up4) os ag
          obtain ⟨oe4, vs4, he4, hz4, hd4⟩ := fl4.there
          have S4 := J4.suite he4 hd4 na nL nF
          refine store_ok (X := X.suite a ((a, oe4) :: (X.pn ++ pins))) (v := .ref a) S4 hN hi (.inl hln) rfl (fun s5 S5 => ?_) (.inr hln)
          refine wpAny_mono ((hsu a oe4 cls d (X.pn ++ pins) hz4 ⟨_, hd4⟩).run [] s5 _ H' _ S5 (hyes rfl a na)) (fun f s6 hsp => ?_) (fun _ _ z => False.elim z)
          have end_ : ∀ {σ6 : L2.St} {H6 : Hp} {Q : Shared → Prop}, Inv (X.suite a ((a, oe4) :: (X.pn ++ pins))) [] σ6 H6 s6 → (∀ s7, Inv X pins (σ6.set i none) H6 s7 → Q s7) →
              wpAny (model X.prog X.w) X.A (do bindName X.env n .none; unbindBehindTheSuite X.env n pos') (fun _ s7 => Q s7) X.xe s6 := fun {σ6 H6 Q} S6 hq => gone_ok (S6.unsuite ok) hN hi hln hq
          cases f with
          | next =>
            obtain ⟨σ6, H6, S6, q6⟩ := hsp
            exact end_ S6 fun s7 J7 => ⟨_, _, J7, q6⟩
          | brk =>
            obtain ⟨σ6, H6, S6, q6⟩ := hsp
            exact end_ S6 fun s7 J7 => ⟨_, _, J7, q6⟩
          | cont =>
            obtain ⟨σ6, H6, S6, q6⟩ := hsp
            exact end_ S6 fun s7 J7 => ⟨_, _, J7, q6⟩
          | ret u =>
            obtain ⟨v6, σ6, H6, S6, r6, q6⟩ := hsp
            exact end_ S6 fun s7 J7 => ⟨_, _, _, J7, r6, q6⟩
        | false =>
          show wpAny _ X.A (handleBy (.ref a) X.env hds2) _ _ _
          exact ih (hno rfl)
    exact go hh w
  · cases f with
    | next =>
      obtain ⟨σ', H', J', q⟩ := hsp
      exact wpAny_execs_nil ⟨σ', H', J'.ofTry ok, q⟩
    | brk =>
      obtain ⟨σ', H', J', q⟩ := hsp
      exact ⟨σ', H', J'.ofTry ok, q⟩
    | cont =>
      obtain ⟨σ', H', J', q⟩ := hsp
      exact ⟨σ', H', J'.ofTry ok, q⟩
    | ret u =>
      obtain ⟨v, σ', H', J', r, q⟩ := hsp
      exact ⟨v, σ', H', J'.ofTry ok, r, q⟩
end

/-! ### the plain reading -/
structure XCl where
  cls : Str
  slot : Option Nat
  suite : Ex → MS
def look2 (tab : List (Str × Str × Bool)) (a b : Str) : Option Bool := (tab.find? fun p => decide (p.1 = a) && decide (p.2.1 = b)).map (·.2.2)
def hideO : Option Nat → En → Option En
  | none, en => some en
  | some i, en => if i < en.length then some (en.set i none) else none
def Out.wipe (i : Nat) : Out → Out
  | .nx e => .nx (e.set i none)
  | .bk e => .bk (e.set i none)
  | .ct e => .ct (e.set i none)
  | .rt d => .rt d
def wipeO : Option Nat → Out → Out
  | none, o => o
  | some i, o => o.wipe i
def handleX (tab : List (Str × Str × Bool)) : List XCl → En → Ex → Sto → Option (OutX × Sto)
  | [], en, x, st => some (.ex en x, st)
  | c :: r, en, x, st => match look2 tab x.cls c.cls with
    | some true => (hideO c.slot en).bind fun en' => (c.suite x en' st).map fun p => (.o (wipeO c.slot p.1), p.2)
    | some false => handleX tab r en x st
    | none => none
def tryX (tab : List (Str × Str × Bool)) (b : MSx) (cs : List XCl) : MSx := fun en st => (b en st).bind fun p => match p.1 with
  | .o o => some (.o o, p.2)
  | .ex en' x => handleX tab cs en' x p.2
/-- what the table says of a clause's class is true -/
def ClsT (K : PySem.W.Frag) (tab : List (Str × Str × Bool)) (x : Str) (c : Value) : Prop := ∀ n b, look2 tab n x = some b → ∃ ca, PySem.W.nsIn K mainGlobals n = some (some (.ref ca)) ∧ PySem.W.exmOne K (.ref ca) c = some b
def TabAt (K : PySem.W.Frag) (x : Str) (c : Value) (p : Str × Str × Bool) : Prop := p.2.1 = x → ∃ ca, PySem.W.nsIn K mainGlobals p.1 = some (some (.ref ca)) ∧ PySem.W.exmOne K (.ref ca) c = some p.2.2
theorem clsT_of {K : PySem.W.Frag} {tab : List (Str × Str × Bool)} {x : Str} {c : Value} (h : ∀ p ∈ tab, TabAt K x c p) : ClsT K tab x c := by
  intro n b e
  obtain ⟨p, hp, rfl⟩ := Option.map_eq_some_iff.mp e
  have h1 := List.find?_some hp
  have h2 := List.mem_of_find?_eq_some hp
  simp only [Bool.and_eq_true, decide_eq_true_eq] at h1
  obtain ⟨e1, e2⟩ := h1
  subst e1
  exact h p h2 e2
def sR (C : Cy) (oi : Option Nat) (mk : Ex → MS) (a : Addr) (cls : Value) (d : Option Addr) : TS := fun N σ H => ∃ x H0 as en st o st', EnR C H0 as en σ ∧ WR C H0 as st H ∧ (∀ i, oi = some i → σ[i]? = some (some (.ref a))) ∧ ExR C H0 as x cls d ∧ mk x en st = some (o, st') ∧ KO C H0 as st' N o
inductive ClsOk (C : Cy) (tab : List (Str × Str × Bool)) : List XCl → List ClV → Prop
  | nil : ClsOk C tab [] []
  | cons {c : XCl} {cv : Value} {cs : List XCl} {l : List ClV} (h : ClsT C.K tab c.cls cv) (r : ClsOk C tab cs l) : ClsOk C tab (c :: cs) ((cv, c.slot, sR C c.slot c.suite) :: l)
theorem EnR.hide {C : Cy} {H0 : Hb} {as : List Addr} {en : En} {σ : L2.St} (e : EnR C H0 as en σ) (i : Nat) (v : Option V) : EnR C H0 as (en.set i none) (σ.set i v) := by
  refine ⟨by simp [e.len], fun j d h => ?_⟩
  by_cases hj : j = i
  · subst hj
    by_cases hl : j < en.length
    · rw [List.getElem?_set_self hl] at h
      cases h
    · rw [List.getElem?_eq_none_iff.mpr (by rw [List.length_set]; omega)] at h
      cases h
  · rw [List.getElem?_set_ne (Ne.symm hj)] at h ⊢
    exact e.at_ j d h
theorem KO.wipe {C : Cy} {H0 : Hb} {as : List Addr} {st : Sto} {N : Ends} {oi : Option Nat} {o : Out} (k : KO C H0 as st N (wipeO oi o)) : KO C H0 as st (endsO oi N) o := by
  cases oi with
  | none => exact k
  | some i =>
    cases o with
    | nx en => exact fun σ H1 as1 H1' l w e => k _ H1 as1 H1' l w (e.forget i)
    | bk en => exact fun σ H1 as1 H1' l w e => k _ H1 as1 H1' l w (e.forget i)
    | ct en => exact fun σ H1 as1 H1' l w e => k _ H1 as1 H1' l w (e.forget i)
    | rt d => exact k
section
variable {C : Cy} {tab : List (Str × Str × Bool)} {σ : L2.St} {H : Hp} {Wout : WX} {N : Ends} {mb : MSx}
theorem handle_ok {H0 : Hb} {as : List Addr} {st st' : Sto} {x : Ex} {cls : Value} {d : Option Addr} : ∀ {cs : List XCl} {l : List ClV} {en : En} {o : OutX}, ClsOk C tab cs l → EnR C H0 as en σ → WR C H0 as st H → ExR C H0 as x cls d →
    handleX tab cs en x st = some (o, st') → KOX C H0 as st' N Wout o → wCl C.K Wout N l cls d σ H := by
  intro cs l en o hc
  induction hc with
  | nil =>
    intro e w r hm k
    cases hm
    exact k σ H0 as H cls d Le.refl w e r
  | @cons c cv cs l h _ ih =>
    intro e w r hm k
    unfold handleX at hm
    cases hl : look2 tab x.cls c.cls with
    | none => rw [hl] at hm; cases hm
    | some b =>
      rw [hl] at hm
      obtain ⟨ca, hns, hex⟩ := h _ _ hl
      obtain ⟨⟨ca', ec, hns'⟩, _⟩ := id r
      rw [hns] at hns'
      cases hns'
      subst ec
      refine ⟨b, hex, fun eb a ha => ?_, fun eb => ?_⟩
      · subst eb
        dsimp only at hm
        obtain ⟨en', he, hm⟩ := Option.bind_eq_some_iff.mp hm
        obtain ⟨⟨o', s'⟩, h1, h2⟩ := Option.map_eq_some_iff.mp hm
        cases h2
        have k2 : KO C H0 as _ (endsO c.slot N) o' := KO.wipe k
        cases hs : c.slot with
        | none =>
          rw [hs] at he k2
          cases he
          exact ⟨x, H0, as, _, st, o', _, e, w, fun i z => (by cases z), r, h1, k2⟩
        | some i =>
          rw [hs] at he k2
          unfold hideO at he
          dsimp only at he
          split at he
          · rename_i hi
            cases he
            refine ⟨x, H0, as, _, st, o', _, e.hide i _, w, fun j z => ?_, r, h1, k2⟩
            cases z
            exact List.getElem?_set_self (by rw [← e.len]; exact hi)
          · cases he
      · subst eb
        exact ih e w r hm k
theorem sx_try {cs : List XCl} {l : List ClV} (hc : ClsOk C tab cs l) : sX C (tryX tab mb cs) Wout N σ H → sX C mb (wCl C.K Wout N l) N σ H := by
  rintro ⟨H0, as, en, st, o, st', e, w, hm, k⟩
  obtain ⟨⟨q, s1⟩, ha, hm⟩ := Option.bind_eq_some_iff.mp hm
  refine ⟨H0, as, en, st, q, s1, e, w, ha, ?_⟩
  cases q with
  | o q =>
    cases hm
    exact k
  | ex en' x =>
    intro σ1 H1 as1 H1' cls d l1 w1 e1 r1
    have k1 : KOX C H1 as1 st' N Wout o := by
      cases o with
      | o o => exact KO.mono l1 k
      | ex en2 x => exact KW.mono l1 k
    exact handle_ok hc e1 w1 r1 hm k1
end

/-! ### suites -/
def sRx (C : Cy) (i : Nat) (a : Addr) (cls : Value) (d : Option Addr) (x : Ex) (m : MS) : TS := fun N σ H => ∃ H0 as en st o st', EnR C H0 as en σ ∧ WR C H0 as st H ∧ σ[i]? = some (some (.ref a)) ∧ ExR C H0 as x cls d ∧ m en st = some (o, st') ∧ KO C H0 as st' N o
def eR (C : Cy) (i : Nat) (a : Addr) (cls : Value) (d : Option Addr) (x : Ex) (m : ME) : TE := fun σ H Q => ∃ H0 as en st r st', EnR C H0 as en σ ∧ WR C H0 as st H ∧ σ[i]? = some (some (.ref a)) ∧ ExR C H0 as x cls d ∧ m en st = some (r, st') ∧ KE C H0 as st' r Q
def aR (C : Cy) (i : Nat) (a : Addr) (cls : Value) (d : Option Addr) (x : Ex) (m : MA) : TA := fun σ H Q => ∃ H0 as en st r st', EnR C H0 as en σ ∧ WR C H0 as st H ∧ σ[i]? = some (some (.ref a)) ∧ ExR C H0 as x cls d ∧ m en st = some (r, st') ∧ KA C H0 as st' r Q
/-- e.f, e an exception of the class c -/
def mFld (c f : Str) (x : Ex) : ME := fun _ st => if x.cls = c then (x.fs.lookup f).map (·, st) else none
section
variable {C : Cy} {i : Nat} {a : Addr} {cls : Value} {d : Option Addr} {x : Ex} {σ : L2.St} {H : Hp} {Q : VK} {ma mb : ME}
theorem er_pure : eR C i a cls d x ma σ H Q → eM C ma σ H Q := by
  rintro ⟨H0, as, en, st, r, st', e, w, _, _, hm, k⟩
  exact ⟨H0, as, en, st, r, st', e, w, hm, k⟩
theorem er_fld {c f : Str} {Ca : Addr} (hns : PySem.W.nsIn C.K mainGlobals c = some (some (.ref Ca))) : eR C i a cls d x (mFld c f x) σ H Q → tXf a cls d Ca f (tVar i) σ H Q := by
  rintro ⟨H0, as, en, st, r, st', e, w, hs, ⟨⟨ca, ec, hc⟩, dd, gs, ed, hd, hr⟩, hm, k⟩
  unfold mFld at hm
  split at hm
  · rename_i hx
    obtain ⟨v, hv, e3⟩ := Option.map_eq_some_iff.mp hm
    cases e3
    rw [hx, hns] at hc
    cases hc
    obtain ⟨u, hu, ru⟩ := hr.look hv
    exact ⟨.ref a, hs, rfl, ec, dd, gs, u, ed, w.ex _ _ hd, hu, k.val w ru⟩
  · cases hm
theorem ar_nil {Q : List V → Hp → Prop} : aR C i a cls d x mNil σ H Q → tNil σ H Q := by
  rintro ⟨H0, as, en, st, r, st', e, w, hs, hx, hm, k⟩
  cases hm
  exact k [] H0 as H Le.refl w rfl
theorem ar_cons {Q : List V → Hp → Prop} {mr : MA} : aR C i a cls d x (mCons ma mr) σ H Q → tCons (eR C i a cls d x ma) (aR C i a cls d x mr) σ H Q := by
  rintro ⟨H0, as, en, st, ds, st', e, w, hs, hx, hm, k⟩
  unfold mCons at hm
  obtain ⟨⟨da, s1⟩, ha, hm⟩ := Option.bind_eq_some_iff.mp hm
  obtain ⟨⟨db, s2⟩, hb, hm⟩ := Option.bind_eq_some_iff.mp hm
  cases hm
  refine ⟨H0, as, en, st, da, s1, e, w, hs, hx, ha, fun v H1 as1 H1' l1 w1 r1 => ?_⟩
  refine ⟨H1, as1, en, s1, db, _, e.mono l1, w1, hs, hx.mono l1, hb, fun y H2 as2 H2' l2 w2 r2 => ?_⟩
  exact k (v :: y) H2 as2 H2' (l1.trans l2) w2 ⟨v, y, rfl, r1.mono l2, r2⟩
theorem er_tup {m : MA} : eR C i a cls d x (mTup m) σ H Q → tTup (aR C i a cls d x m) σ H Q := by
  rintro ⟨H0, as, en, st, r, st', e, w, hs, hx, hm, k⟩
  unfold mTup at hm
  obtain ⟨⟨ds, s1⟩, ha, hm⟩ := Option.bind_eq_some_iff.mp hm
  dsimp only at hm
  split at hm
  · rename_i hl
    cases hm
    refine ⟨H0, as, en, st, ds, _, e, w, hs, hx, ha, fun xs H1 as1 H1' l1 w1 r1 => ⟨by rw [← r1.length]; exact hl, (KE.mono l1 k).newT w1 r1⟩⟩
  · cases hm
theorem er_op {r : R2} {f : D → D → Sto → Option (D × Sto)} (ok : Ok2 C r f) : eR C i a cls d x (mOp f ma mb) σ H Q → tOp r (eR C i a cls d x ma) (eR C i a cls d x mb) σ H Q := by
  rintro ⟨H0, as, en, st, r0, st', e, w, hs, hx, hm, k⟩
  unfold mOp at hm
  obtain ⟨⟨da, s1⟩, ha, hm⟩ := Option.bind_eq_some_iff.mp hm
  obtain ⟨⟨db, s2⟩, hb, hm⟩ := Option.bind_eq_some_iff.mp hm
  refine ⟨H0, as, en, st, da, s1, e, w, hs, hx, ha, fun v H1 as1 H1' l1 w1 r1 => ?_⟩
  refine ⟨H1, as1, en, s1, db, s2, e.mono l1, w1, hs, hx.mono l1, hb, fun y H2 as2 H2' l2 w2 r2 => ?_⟩
  exact ok H2 as2 s2 H2' da db v y _ _ Q w2 (r1.mono l2) r2 hm (KE.mono (l1.trans l2) k)
theorem sr_pure {m : MS} {N : Ends} : sRx C i a cls d x m N σ H → sM C m N σ H := by
  rintro ⟨H0, as, en, st, r, st', e, w, _, _, hm, k⟩
  exact ⟨H0, as, en, st, r, st', e, w, hm, k⟩
theorem sr_ret {m : ME} {N : Ends} : sRx C i a cls d x (mRet m) N σ H → tRet (eR C i a cls d x m) N σ H := by
  rintro ⟨H0, as, en, st, o, st', e, w, hs, hx, hm, k⟩
  unfold mRet at hm
  obtain ⟨⟨d', s1⟩, ha, hm⟩ := Option.bind_eq_some_iff.mp hm
  cases hm
  exact ⟨H0, as, en, st, d', s1, e, w, hs, hx, ha, k⟩
theorem sr_drop {m : ME} {N : Ends} : sRx C i a cls d x (mDrop m) N σ H → tDrop (eR C i a cls d x m) N σ H := by
  rintro ⟨H0, as, en, st, o, st', e, w, hs, hx, hm, k⟩
  unfold mDrop at hm
  obtain ⟨⟨d', s1⟩, ha, hm⟩ := Option.bind_eq_some_iff.mp hm
  cases hm
  exact ⟨H0, as, en, st, d', s1, e, w, hs, hx, ha, fun v H1 as1 H1' l1 w1 _ => k σ H1 as1 H1' l1 w1 (e.mono l1)⟩
theorem sr_set {m : ME} {N : Ends} {j : Nat} : sRx C i a cls d x (mAsg m (mgName j)) N σ H → tAsg (eR C i a cls d x m) (gName j) N σ H := by
  rintro ⟨H0, as, en, st, o, st', e, w, hs, hx, hm, k⟩
  unfold mAsg at hm
  obtain ⟨⟨d', s1⟩, ha, hm⟩ := Option.bind_eq_some_iff.mp hm
  obtain ⟨⟨en2, s2⟩, hb, hm⟩ := Option.bind_eq_some_iff.mp hm
  cases hm
  refine ⟨H0, as, en, st, d', s1, e, w, hs, hx, ha, fun v H1 as1 H1' l1 w1 r1 => ?_⟩
  cases hb
  exact k _ H1 as1 H1' l1 w1 ((e.mono l1).set r1 j)
end
section
variable {X : Cx} {i : Nat} {a : Addr} {oe : Obj} {pn : List (Addr × Obj)} {cls : Value} {d : Option Addr} {x : Ex} {e f g : Expr} {es : List Expr} {pos : Pos}
abbrev Su (X : Cx) (a : Addr) (oe : Obj) (pn : List (Addr × Obj)) : Cx := X.suite a ((a, oe) :: pn)
theorem u_pure {m : ME} (h : PE X e (eM (cyOf X) m)) : PE X e (eR (cyOf X) i a cls d x m) := PE.imp h fun _ _ _ => er_pure
theorem u_fld {n c nm : Str} {p : Pos} {Ca : Addr} (T : XfC X.K Ca) (hno : PySem.W.findIn X.K (.ref Ca) n = some none) (hns : PySem.W.nsIn X.K mainGlobals c = some (some (.ref Ca))) (hz : Zc cls d oe) (hf : ∃ vs, oe.data = .fields vs)
    (he : PE (Su X a oe pn) (.Name nm p) (tVar i)) (hb : attributeBase (.Name nm p) n X.env (eval (.Name nm p) X.env) = eval (.Name nm p) X.env := by rfl) : PE (Su X a oe pn) (.Attribute (.Name nm p) n pos) (eR (cyOf X) i a cls d x (mFld c n x)) :=
  PE.imp (pe_xf T hno hz hf he hb) fun _ _ _ => er_fld hns
theorem u_nil : PA X [] (aR (cyOf X) i a cls d x mNil) := PA.imp pa_nil fun _ _ _ => ar_nil
theorem u_cons {ma : ME} {mr : MA} (ha : PE X e (eR (cyOf X) i a cls d x ma)) (hr : PA X es (aR (cyOf X) i a cls d x mr)) (hs : starEach (e :: es) X.env = (false, eval e X.env) :: starEach es X.env := by rfl) : PA X (e :: es) (aR (cyOf X) i a cls d x (mCons ma mr)) := PA.imp (pa_cons ha hr hs) fun _ _ _ => ar_cons
theorem u_tup {k : Nat} {mr : MA} (h : PA X es (aR (cyOf X) i a cls d x mr)) : PE X (.Tuple es k pos) (eR (cyOf X) i a cls d x (mTup mr)) := PE.imp (pe_tup h) fun _ _ _ => er_tup
theorem us_ret {m : ME} (he : PE X e (eR (cyOf X) i a cls d x m)) : PS X (.Return (some e) pos) (sRx (cyOf X) i a cls d x (mRet m)) := PS.imp (ps_ret he) fun _ _ _ => sr_ret
theorem us_pure {st : Stmt} {m : MS} (h : PS X st (sM (cyOf X) m)) : PS X st (sRx (cyOf X) i a cls d x m) := PS.imp h fun _ _ _ => sr_pure
theorem us_set {y : Str} {pos' : Pos} {m : ME} (j : Nat) (hN : X.N.Nodup) (hi : X.N[j]? = some y) (hx : Loc X.env.scope y) (he : PE X e (eR (cyOf X) i a cls d x m)) (hs : swapsWith e (some (.Name y pos')) pos.line X.env = pure false := by rfl) (hf : X.fn y = true ∨ X.env.scope.names.lookup y = some .local := by first | exact .inl rfl | exact .inr rfl | assumption) :
    PS X (.Assign [.Name y pos'] e pos) (sRx (cyOf X) i a cls d x (mAsg m (mgName j))) := PS.imp (ps_set hN hi hx he hs hf) fun N σ H h => by
  have h2 := sr_set h
  exact h2
/-- a clause with a name: one statement -/
theorem u_one {st : Stmt} {mk : Ex → MS} (h : ∀ x, PS (Su X a oe pn) st (sRx (cyOf X) i a cls d x (mk x))) : PSs (Su X a oe pn) [st] (sR (cyOf X) (some i) mk a cls d) := ⟨fun pins s σ H D I hw => by
  obtain ⟨x, H0, as, en, st0, o, st', e, w, hs, hx, hm, k⟩ := hw
  exact (pss_one (h x)).run pins s σ H D I ⟨H0, as, en, st0, o, st', e, w, hs i rfl, hx, hm, k⟩⟩
/-- a clause without a name -/
theorem u_plain {sts : List Stmt} {m : MS} (h : PSs (Su X a oe pn) sts (sM (cyOf X) m)) : PSs (Su X a oe pn) sts (sR (cyOf X) none (fun _ => m) a cls d) := ⟨fun pins s σ H D I hw => by
  obtain ⟨x, H0, as, en, st0, o, st', e, w, hs, hx, hm, k⟩ := hw
  exact h.run pins s σ H D I ⟨H0, as, en, st0, o, st', e, w, hm, k⟩⟩
end
section
variable {X : Cx} {body : List Stmt} {h₀ : ExceptHandler} {hds : List ExceptHandler} {l : List ClV} {cs : List XCl} {tab : List (Str × Str × Bool)} {pos : Pos} {mb : MSx} {W : WX}
theorem xs_try (hs : X.stack = X.env :: X.outer) (hf : X.env.frame = some X.env.locals) (hN : X.N.Nodup) (tk : Takes X W)
    (hb : ∀ (W : WX) (pn : List (Addr × Obj)) (xe : Value → Shared → Prop), Takes (X.tr pn xe) W → PassesOwn (model X.prog X.w) X.A X.env xe → PSs (X.tr pn xe) body (sX (cyOf X) mb W))
    (hh : HdsCl X (h₀ :: hds) l) (hc : ClsOk (cyOf X) tab cs l) : PS X (.Try body (h₀ :: hds) [] [] pos) (sX (cyOf X) (tryX tab mb cs) W) :=
  PS.imp (ps_try_cl (tb := fun W => sX (cyOf X) mb W) hs hf hN tk hb hh) fun _ _ _ => sx_try hc
/-- .. that lets nothing out -/
theorem z_try (hs : X.stack = X.env :: X.outer) (hf : X.env.frame = some X.env.locals) (hN : X.N.Nodup)
    (hb : ∀ (W : WX) (pn : List (Addr × Obj)) (xe : Value → Shared → Prop), Takes (X.tr pn xe) W → PassesOwn (model X.prog X.w) X.A X.env xe → PSs (X.tr pn xe) body (sX (cyOf X) mb W))
    (hh : HdsCl X (h₀ :: hds) l) (hc : ClsOk (cyOf X) tab cs l) : PS X (.Try body (h₀ :: hds) [] [] pos) (sM (cyOf X) (runX (tryX tab mb cs))) :=
  PS.imp (xs_try hs hf hN (takes0 (X := X)) hb hh hc) fun _ _ _ => sm_runX
end
end My


namespace My
open PySem PySem.Spec PySem.Calls PyProof.Rows L2
def clsBody : Stmt → List Stmt
  | .ClassDef _ _ _ b _ _ _ _ _ _ _ => b
  | _ => []
def tryOf : Stmt → List Stmt
  | .Try b _ _ _ _ => b
  | _ => []
theorem exm_of {K : PySem.W.Frag} {t : Value} {S : Addr} {b : Bool} (h1 : PySem.W.subIn K (.ref S) (.type "BaseException") = some true) (h2 : PySem.W.isClsIn K S = true) (h3 : PySem.W.typeIn K (.ref S) = some (.type "type")) (h4 : PySem.W.subIn K t (.ref S) = some b) :
    PySem.W.exmOne K t (.ref S) = some b := by
  have e1 : (PySem.W.subIn K (.ref S) (.type "BaseException") == some true) = true := by rw [h1] <;> rfl
  have e2 : ((PySem.W.clsIn K S).isSome && PySem.W.typeIn K (.ref S) == some (.type "type")) = true := by
    have h2' : (PySem.W.clsIn K S).isSome = true := h2
    rw [h2', h3] <;> rfl
  show (if (PySem.W.subIn K (.ref S) (.type "BaseException") == some true) = true then (if ((PySem.W.clsIn K S).isSome && PySem.W.typeIn K (.ref S) == some (.type "type")) = true then PySem.W.subIn K t (.ref S) else none) else none) = some b
  rw [if_pos e1, if_pos e2]
  exact h4
theorem psn {X : Cx} {st : Stmt} {t : TS} (h : PS X.nox st t) : PS X st t := ⟨fun pins s σ H D I hw =>
  wpAny_mono (h.run pins s σ H D (I.wish _) hw) (fun _ _ q => q.unwish) fun _ _ z => False.elim z⟩
section
variable {X : Cx} {W : WX} {a b : Expr} {pos : Pos}
theorem xx_k {op : CmpOp} {r : R2} {f : D → D → Sto → Option (D × Sto)} {ma mb : MEx} (h : OpR X (compareOp op) r ∧ Ok2 (cyOf X) r f) (ha : PE X a (eX (cyOf X) ma W)) (hb : PE X b (eX (cyOf X) mb W)) (hm : behindInMarks op b = false := by first | rfl | exact nomark _) : PE X (.Compare a [op] [b] pos) (eX (cyOf X) (opX f ma mb) W) := PE.imp (pe_cmpR h.1 ha hb hm) fun _ _ _ => ex_op h.2
end
/-- an own exception class whose __init__ keeps its parameters as fields -/
structure ExcF (P : Program) (K : PySem.W.Frag) (mg : Str → Option Value) (x : Str) (fs ps : List Str) where
  a : Addr
  i : Addr
  d : FuncData
  g : mg x = some (.ref a)
  n : PySem.W.nsIn K mainGlobals x = some (some (.ref a))
  T : OexC K a
  X : XfC K a
  fl : ∀ f ∈ fs, PySem.W.findIn K (.ref a) f = some none
  ic : PySem.W.findIn K (.ref a) "__init__" = some (some (.ref i))
  it : PySem.W.typeIn K (.ref i) = some (.type "function")
  b : Binds K d ps []
  J : ∀ (w : World) (base : Heap), FnOk P w K mg base CX0 1 i d ps (spI a fs)
theorem tab_nil {K : PySem.W.Frag} {x : Str} {c : Value} : ∀ p ∈ ([] : List (Str × Str × Bool)), TabAt K x c p := fun _ h => (List.not_mem_nil h).elim
theorem tab_cons {K : PySem.W.Frag} {x : Str} {c : Value} {p : Str × Str × Bool} {r : List (Str × Str × Bool)} (h : TabAt K x c p) (hr : ∀ p ∈ r, TabAt K x c p) : ∀ q ∈ p :: r, TabAt K x c q := fun q hq => by
  rcases List.mem_cons.mp hq with e | e
  · rw [e]; exact h
  · exact hr q e
theorem tab_yes {K : PySem.W.Frag} {x n : Str} {c : Value} {b : Bool} {a : Addr} (h1 : PySem.W.nsIn K mainGlobals n = some (some (.ref a))) (h2 : PySem.W.exmOne K (.ref a) c = some b) : TabAt K x c (n, x, b) := fun _ => ⟨a, h1, h2⟩
theorem tab_no {K : PySem.W.Frag} {x n y : Str} {c : Value} {b : Bool} (h : y ≠ x) : TabAt K x c (n, y, b) := fun e => (h e).elim
/-- what stands of the class in the written part -/
theorem supC_mk {P : Program} {K : PySem.W.Frag} {C cc cda : Addr} {cl ccl : Value} {cld cdd : Option Addr} {csl ccs : Array (Option Value)} {vs : Array Value} {file : Str} {tf : Tok} (T : OexC K C)
    (ce : K.lookup cc = some ⟨cl, cld, .cell (some (.ref C)), csl⟩) (co : K.lookup cda = some ⟨ccl, cdd, .fields vs, ccs⟩) (v2 : vs[2]? = some (.str file tf)) (vf : ((P.main.file : Str) == file) = true)
    (su : PySem.W.mroIn K C (.ref C) = some true) (sp : PySem.W.ks_superIn K C C "__init__" = some (some (.builtin "ValueError.__init__"))) (iB : PySem.W.subIn K (.ref C) (.type "ValueError") = some true) (oq : PySem.W.nsIn K cStatics "thirdparty.any" = some none)
    (tp : (P.main.scope.names.lookup ("super" : Str)).isSome = false) : SupC P K C cc cda := ⟨T, ⟨_, _, _, ce⟩, ⟨_, _, _, _, _, _, co, v2, vf⟩, su, sp, iB, oq, tp⟩
theorem oexC_mk {K : PySem.W.Frag} {C M N0 : Addr} {nm q : Str} {bs : List Value} {sn : List Str} {sub : List Value} {ab : Bool} {col : Option Bool} {dd : Option Addr} {m0 m1 m2 m3 m5 : Option Value}
    (xL : K.lookup C = some (excClassObj nm q C N0 bs [.ref M, .type "ValueError", .type "Exception", .type "BaseException", .type "object"] true sn sub ab col dd m0 m1 m2 m3 m5 "ValueError.__new__"))
    (sa : PySem.W.findIn K (.ref C) "__setattr__" = some (some (.builtin "object.__setattr__"))) (eC : PySem.W.subIn K (.ref C) (.type "BaseException") = some true) (tC : PySem.W.typeIn K (.ref C) = some (.type "type")) (kC : PySem.W.keepIn K (.ref C) = true) : OexC K C :=
  ⟨⟨_, _, _, _, _, _, _, _, _, _, _, _, _, _, _, xL, by show PySem.HandSPX.refsVE [.type "ValueError", .type "Exception", .type "BaseException", .type "object"] = true; decide +kernel⟩, sa, eC, tC, kC⟩
end My


namespace PySem
open Sem (wp)
open AutoSeq1 (wpAny_loadPart')
/-! ### enumerate(tuple) at the library's level -/
theorem my_enumerate_newT (l : Addr) (items : Array Value) (n : Nat) (dct : Option Addr) (sl : Array (Option Value)) :
    Meets (Builtin.«enumerate.__new__» ⟨[.type "enumerate", .ref l], []⟩) (fun _ R s => s.heap.get? l = some { cls := .type "tuple", dict := dct, data := .seq items n, slots := sl } ∧
      R (.ok (.ret (.ref (s.heap.push { cls := .type "tuple_iterator", data := .fields #[.ref l, .int 0 0] }).objs.size)))
        { s with heap := (s.heap.push { cls := .type "tuple_iterator", data := .fields #[.ref l, .int 0 0] }).push { cls := .type "enumerate", data := .fields #[.none, .bool false, .ref s.heap.objs.size, rawInt 0, .none, .none] } }) :=
  .of_wp fun prog w A R s h => by
    obtain ⟨hp, g, d, tk, os⟩ := s; obtain ⟨hl, h⟩ := h
    have hsub := sub_enumerate
    have hL : Heap.IsTuple (Shared.heap ⟨hp, g, d, tk, os⟩) l items := ⟨_, hl, rfl, n, rfl⟩
    wp_walk using wpAny_loadPart' hl
    refine wpAny_stack_any fun st => wpAny_pure ?_
    split
    · rename_i c _ _ _ _ _
      cases (c == Value.type "enumerate")
      · wp_walk using wpAny_loadPart' hl, wpAny_pyIter_tuple hL
        exact ⟨_, rfl, h⟩
      · wp_walk using wpAny_loadPart' hl, wpAny_pyIter_tuple hL
        exact ⟨_, rfl, h⟩
    · wp_walk using wpAny_loadPart' hl, wpAny_pyIter_tuple hL
      exact ⟨_, rfl, h⟩
section
variable {prog : Program} {w : World} {A : Around} {E : Value → Shared → Prop} {s : Shared}
theorem my_enumerate_tuple {l : Addr} {items : Array Value} {Q : Value → Shared → Prop} (hL : s.heap.IsTuple l items)
    (h : ∀ h', IsEnum h' (s.heap.objs.size + 1) s.heap.objs.size 0 .none → h'.IsTupleIter s.heap.objs.size l 0 → h'.objs.size = s.heap.objs.size + 2 →
      (∀ b o, s.heap.get? b = some o → h'.get? b = some o) → Q (.ref (s.heap.objs.size + 1)) { s with heap := h' }) :
    wpAny (model prog w) A (call (.type "enumerate") [.ref l]) Q E s := by
  obtain ⟨⟨c, dct, dt, sl⟩, hl, hc, n, hd⟩ := hL
  replace hc : c = .type "tuple" := hc
  replace hd : dt = .seq items n := hd
  subst hc hd
  refine callType_new F.called_enumerate (by decide) (F.typeCall_enumerate_1 _) (F.newCall_enumerate_1 _) (fun obj => F.args_object_init_2 obj _) F.entry_enumerate_new
    (my_enumerate_newT l items n dct sl) ⟨hl, ?_⟩
  have hz : (s.heap.push { cls := .type "tuple_iterator", data := .fields #[.ref l, .int 0 0] }).objs.size = s.heap.objs.size + 1 := Heap.size_push ..
  show _ ∧ _
  rw [hz]
  have he : IsEnum ((s.heap.push { cls := .type "tuple_iterator", data := .fields #[.ref l, .int 0 0] }).push
      { cls := .type "enumerate", data := .fields #[.none, .bool false, .ref s.heap.objs.size, rawInt 0, .none, .none] }) (s.heap.objs.size + 1) s.heap.objs.size 0 .none := by
    have := Heap.get?_push_size (s.heap.push { cls := .type "tuple_iterator", data := .fields #[.ref l, .int 0 0] })
      (o := { cls := .type "enumerate", data := .fields #[.none, .bool false, .ref s.heap.objs.size, rawInt 0, .none, .none] }) rfl
    rw [hz] at this; exact this
  refine ⟨⟨_, he, rfl⟩, h _ he ⟨_, Heap.get?_push_of_some _ (Heap.get?_push_size _ rfl), rfl, rfl⟩ (by rw [Heap.size_push, hz]) fun b o x => Heap.get?_push_of_some _ (Heap.get?_push_of_some _ x)⟩
theorem my_enum_end {e it l : Addr} {i : Nat} {items : Array Value} {old : Value} {Q : Option Value → Shared → Prop} (hh : A.handled = none)
    (he : IsEnum s.heap e it i old) (hit : s.heap.IsTupleIter it l i) (hl : s.heap.IsTuple l items) (hx : items[i]? = none)
    (hQ : ∀ h', Heap.ExtBut it s.heap h' → Q none { s with heap := h' }) : wpAny (model prog w) A (pyNext (.ref e)) Q E s := by
  have hT : s.TypeIs (.ref e) "enumerate" := ⟨_, he, rfl⟩
  unfold pyNext
  refine wpAny_bind (wpAny_attempt (wpAny_callSpecial?_slot (name := Str.ofString "__next__") hT F.slot_enumerate_next
    (wpAny_call_entry F.slot_enumerate_next hT F.entry_enumerate_next ?_ (F.args_enumerate_next_1 _))))
  show wpAny _ _ (field (.ref e) 2 >>= _) _ _ _
  refine wpAny_bind (wpAny_field he rfl (x := .ref it) rfl ?_)
  refine wpAny_bind (RZ.nextOf_tuple_end hh hit hl hx fun h' x he' hx' => ?_)
  obtain ⟨o, ho, hc⟩ := hx'
  refine wpAny_bind (wpAny_isInstance (T := "StopIteration") (b := true) ⟨o, ho, hc⟩ isSubtype_stop ?_)
  exact wpAny_pure (hQ _ he')
theorem my_draws_tuple {it l : Addr} {items : Array Value} (hne : l ≠ it) (hh : A.handled = none) : Draws prog w A it [it, l] items.size (fun i v => items[i]? = some v) (fun i h => h.IsTupleIter it l i ∧ h.IsTuple l items) where
  live := fun i h st => let ⟨⟨o, ho, _⟩, _⟩ := st; ⟨o, ho⟩
  frame := fun i h h' st k => ⟨st.1.at fun o q => k it (by simp) o q, let ⟨o, ho, r⟩ := st.2; ⟨o, k l (by simp) o ho, r⟩⟩
  item := fun i s Q E hi st hQ => RZ.nextOf_tuple_item st.1 st.2 (x := items[i]) (Array.getElem?_eq_getElem hi) fun h' hit' sb => hQ _ h' s.toks (Array.getElem?_eq_getElem hi) ⟨hit', let ⟨o, ho, r⟩ := st.2; ⟨o, (sb.2 l hne).trans ho, r⟩⟩ sb
  done := fun s Q E st hE => RZ.nextOf_tuple_end hh st.1 st.2 (Array.getElem?_eq_none_iff.mpr (Nat.le_refl _)) hE
end
end PySem
namespace L2
open PySem PySem.Spec PyProof.Rows
/-- the tuple at a, each item in a new pair -/
def IteT (K : PySem.W.Frag) (a : Addr) : It :=
  ⟨fun i H => ∃ (xs : List V) (x : V), SqT K H a xs ∧ xs[i]? = some x, fun i H v H' => ∃ T x, v = .ref T ∧ H T = none ∧ H' = upd H T (.tup [.int (i : Nat), x]) ∧ ∀ xs, SqT K H a xs → xs[i]? = some x, fun i H => ∃ xs : List V, SqT K H a xs ∧ xs.length ≤ i⟩
theorem turn_enumT {P : Program} {w : World} {K : PySem.W.Frag} {elts : List Expr} {kk : Nat} {tpos : Pos} (a e it : Addr) :
    Turn P w K (.Tuple elts kk tpos) (IteT K a) [e, it] e (fun i h => (∃ old, IsEnum h e it ((i : Nat) : Int) old) ∧ h.IsTupleIter it a i ∧ e ≠ it) where
  mem := by simp
  obj := fun i h st b hb => by
    obtain ⟨⟨old, he⟩, ⟨o, ho, hc, hd⟩, _⟩ := st
    have e' : b = e ∨ b = it := by simpa using hb
    rcases e' with z | z
    · rw [z]; exact ⟨_, he, fun v q => nomatch q⟩
    · rw [z]; exact ⟨o, ho, fun v q => by rw [hd] at q; cases q⟩
  keep := fun i h h' st k => let ⟨⟨old, he⟩, hi, hne⟩ := st; ⟨⟨old, k e (by simp) _ he⟩, hi.at fun o q => k it (by simp) o q, hne⟩
  item := by
    intro X hP hw hK hc i pins s σ H E I hf st hg
    subst hP hw hK
    obtain ⟨⟨old, he⟩, hit, hne⟩ := st
    obtain ⟨xs, x, hq, hx⟩ := hg
    obtain ⟨its, rv, p, hz⟩ := I.tuple hq
    have p : s.heap.IsTuple a its.toArray := p
    obtain ⟨u, hu, ru⟩ := rv.get hx
    have hel : e < s.heap.objs.size := Heap.lt_size he
    have hil : it < s.heap.objs.size := by obtain ⟨_, q, _⟩ := hit; exact Heap.lt_size q
    have hea : e ≠ a := fun z => by
      obtain ⟨o, ho, hc, _⟩ := p
      rw [← z, he] at ho
      cases ho
      exact absurd (Value.type.inj hc) (by decide)
    have hia : a ≠ it := fun z => by
      obtain ⟨o, ho, hc, _⟩ := p
      obtain ⟨o2, ho2, hc2, _⟩ := hit
      rw [z, ho2] at ho
      cases ho
      rw [hc2] at hc
      exact absurd (Value.type.inj hc) (by decide)
    have D : Draws X.prog X.w X.A.in1 it [it, a] its.toArray.size (fun i v => its.toArray[i]? = some v) (fun i h => h.IsTupleIter it a i ∧ h.IsTuple a its.toArray) := my_draws_tuple hia (I.ok.hd hc)
    refine wpAny_pyNext_enum_itemD D he ⟨hit, p⟩ (by obtain ⟨h1, _⟩ := List.getElem?_eq_some_iff.mp hu; simpa using h1) hne (by simp [hne, hea]) fun u' h' tk hu' ho hst' hT hsz hk => ?_
    have eu : u' = u := by
      have h1 : its.toArray[i]? = some u' := hu'
      have h2 : its.toArray[i]? = some u := by simpa using hu
      rw [h1] at h2
      exact Option.some.inj h2
    subst eu
    refine ⟨_, rfl, wpAny_letOwnedTupleGo_enum (s := { s with heap := h', toks := tk + 1 }) ho fun h'' he' sb => ?_⟩
    have hT2 : h''.get? s.heap.objs.size = some { cls := .type "tuple", data := .seq #[.int i tk, u'] } := (sb.2 _ (Nat.ne_of_gt hel)).trans hT
    have new : ObjOk X.prog X.w (upd H s.heap.objs.size (.tup [.int (i : Nat), x])) h'' s.heap.objs.size (.tup [.int (i : Nat), x]) :=
      ⟨by show 2 ≤ sizeLine; decide, [.int i tk, u'], .cons ⟨_, rfl⟩ (.cons ru .nil), ⟨_, hT2, rfl, _, rfl⟩⟩
    have I1 : Inv X pins σ (upd H s.heap.objs.size (.tup [.int (i : Nat), x])) { s with heap := h'', toks := tk + 1 } :=
      I.turnedNew (ch := [e, it]) (fun b ob hb q => (sb.2 b (fun z => hb (by simp [z]))).trans (hk b ob (fun z => hb (by simp [z])) (fun z => hb (by simp [z])) q)) hf (Nat.le_refl _) new
    refine ⟨.ref s.heap.objs.size, _, I1, rfl, ⟨_, x, rfl, I.hok.fresh (Nat.le_refl _), rfl, fun ys hy => by rw [I.tuple_inj hy hq]; exact hx⟩, ⟨⟨u', ?_⟩, hst'.1.at fun o q => (sb.2 it (Ne.symm hne)).trans q, hne⟩, fun b hb => ?_⟩
    · have e1 : ((i + 1 : Nat) : Int) = (i : Int) + 1 := by omega
      rw [e1]; exact he'
    · have hb' : b < s.heap.objs.size := by
        have e' : b = e ∨ b = it := by simpa using hb
        rcases e' with z | z
        · rw [z]; exact hel
        · rw [z]; exact hil
      rw [upd_ne (Nat.ne_of_lt hb')]
      exact (hf b hb).1
  done := by
    intro X hP hw hK hc i pins s σ H E I hf st hg
    subst hP hw hK
    obtain ⟨⟨old, he⟩, hit, hne⟩ := st
    obtain ⟨xs, hq, hx⟩ := hg
    obtain ⟨its, rv, p, hz⟩ := I.tuple hq
    obtain ⟨f0, f1, f2, f3, f4, f5⟩ := hf it (by simp)
    have hl := rv.length
    exact my_enum_end (I.ok.hd hc) he hit (show s.heap.IsTuple a its.toArray from p) (by simp; omega) fun h' eb => ⟨rfl, I.turned (t' := s.toks) (fun b o hb q => eb b o hb q) f0 f1 f3 f4 f5⟩
  self := fun A i s Q E st h => let ⟨⟨_, he⟩, _⟩ := st; wpAny_pyIter_enum he h
def iEnumA (K : PySem.W.Frag) (ta : TA) : TI := fun σ H R => ta σ H fun vs H1 => ∃ a xs, vs = [.ref a] ∧ ((SqL K H1 a xs ∧ R (Ite K a) H1) ∨ (SqT K H1 a xs ∧ R (IteT K a) H1))
theorem pi_enumA {X : Cx} {e : Expr} {ta : TA} {p pos tpos : Pos} {elts : List Expr} {kk : Nat} (hg : Gl X "enumerate") (hm : X.mg "enumerate" = none) (ha : PA X [e] ta) (hs : starEach [e] X.env = [(false, eval e X.env)] := by rfl) :
    PI X (.Tuple elts kk tpos) (.Call (.Name "enumerate" p) [e] [] pos) (iEnumA X.K ta) := by
  refine ⟨fun pins s σ H R I h => ?_⟩
  refine Call_ (ld_blt I hg hm boot_enumerate (PyProof.Rows.callWith_type1 (thn (ha.run pos pins s σ H _ I h) fun us s1 ⟨vs, H1, I1, r1, q1⟩ => ?_) hs rfl))
  obtain ⟨a, xs, ex, q1⟩ := q1
  subst ex
  cases r1 with
  | cons r rr =>
    cases rr
    cases r
    have fin : ∀ b, b = s1.heap.objs.size + 1 ∨ b = s1.heap.objs.size → s1.heap.objs.size ≤ b := fun b e' => by
      rcases e' with z | z
      · rw [z]; exact Nat.le_add_right _ _
      · rw [z]; exact Nat.le_refl _
    rcases q1 with ⟨hq, q⟩ | ⟨hq, q⟩
    · obtain ⟨its, rv, p', hz⟩ := I1.list hq
      refine call_enumerate_list p'.isList fun h' he hit hsz hk => wpAny_pyIter_enum he ?_
      have I2 : Inv X pins σ H1 { s1 with heap := h' } := I1.kept (t' := s1.toks) hk
      refine ⟨s1.heap.objs.size + 1, [s1.heap.objs.size + 1, s1.heap.objs.size], _, _, H1, rfl, I2, turn_enum a (s1.heap.objs.size + 1) s1.heap.objs.size, ⟨⟨.none, he⟩, hit, Nat.succ_ne_self _⟩, fun b hb => ?_, q⟩
      exact I1.fpOk (fin b (by simpa using hb)) (I1.hok.fresh (fin b (by simpa using hb)))
    · obtain ⟨its, rv, p', hz⟩ := I1.tuple hq
      refine my_enumerate_tuple (show s1.heap.IsTuple a its.toArray from p') fun h' he hit hsz hk => wpAny_pyIter_enum he ?_
      have I2 : Inv X pins σ H1 { s1 with heap := h' } := I1.kept (t' := s1.toks) hk
      refine ⟨s1.heap.objs.size + 1, [s1.heap.objs.size + 1, s1.heap.objs.size], _, _, H1, rfl, I2, turn_enumT a (s1.heap.objs.size + 1) s1.heap.objs.size, ⟨⟨.none, he⟩, hit, Nat.succ_ne_self _⟩, fun b hb => ?_, q⟩
      exact I1.fpOk (fin b (by simpa using hb)) (I1.hok.fresh (fin b (by simpa using hb)))
end L2
namespace My
open PySem PySem.Spec PyProof.Rows L2
def miEnumA (m : MA) : MI := fun en st => (m en st).bind fun p => match p.1 with
  | [.tup xs] => some (⟨enumD xs, none⟩, p.2)
  | [a] => (frozenL a).map fun xs => (⟨enumD xs, none⟩, p.2)
  | _ => none
section
variable {C : Cy} {X : Cx}
theorem itOk_enumT {a : Addr} {xs : List D} {us : List V} {H0 : Hb} {as : List Addr} (q1 : SqT C.K H0.h a us) (r1 : Reps C H0 as xs us) : ItOk C (IteT C.K a) ⟨enumD xs, none⟩ H0 as := by
  intro H1 as1 st H i l w _
  have p1 := same_seqT w.ex (same_seqT l.same q1)
  have s1 := r1.mono l
  refine ⟨fun d hd => ?_, fun hi => ⟨us, p1, ?_⟩⟩
  · have hd : (enumD xs)[i]? = some d := hd
    unfold enumD at hd
    rw [List.getElem?_map, List.getElem?_zipIdx, Option.map_map] at hd
    obtain ⟨x, hx, rfl⟩ := Option.map_eq_some_iff.mp hd
    obtain ⟨u, hu, ru⟩ := s1.get hx
    refine ⟨⟨us, u, p1, hu⟩, fun z H' t => ?_⟩
    obtain ⟨T, x', rfl, hT, rfl, e1⟩ := t
    have e1 := e1 us p1
    rw [hu] at e1
    cases e1
    refine newT_ex w (reps_two ?_ ru) hT
    show V.int _ = V.int _
    simp
  · have hi : (enumD xs).length ≤ i := hi
    unfold enumD at hi
    rw [List.length_map, List.length_zipIdx] at hi
    have e1 := r1.length
    omega
variable {σ : L2.St} {H : Hp} {R : It → Hp → Prop} {m : MA}
theorem im_enumA : iM C (miEnumA m) σ H R → iEnumA C.K (aM C m) σ H R := by
  rintro ⟨H0, as, en, st, s, st', e, w, hm, k⟩
  unfold miEnumA at hm
  obtain ⟨⟨d, s1⟩, ha, hm⟩ := Option.bind_eq_some_iff.mp hm
  dsimp only at hm
  split at hm
  · cases hm
    refine ⟨H0, as, en, st, _, _, e, w, ha, fun vs H1 as1 H1' l1 w1 r1 => ?_⟩
    obtain ⟨v, rfl, rv⟩ := reps1 r1
    obtain ⟨a, us, rfl, q1, y1⟩ := rv
    exact ⟨a, us, rfl, .inr ⟨same_seqT w1.ex q1, k _ H1 as1 H1' l1 w1 fun g => itOk_enumT (H0 := ⟨H1.h, g⟩) q1 (y1.gset g)⟩⟩
  · obtain ⟨xs, hx, hm⟩ := Option.map_eq_some_iff.mp hm
    cases hm
    refine ⟨H0, as, en, st, _, _, e, w, ha, fun vs H1 as1 H1' l1 w1 r1 => ?_⟩
    obtain ⟨v, rfl, rv⟩ := reps1 r1
    obtain ⟨a, us, rfl, q1, y1⟩ := frozen_seq rv hx
    exact ⟨a, us, rfl, .inl ⟨w1.ex.seq q1, k _ H1 as1 H1' l1 w1 fun g => itOk_enum (H0 := ⟨H1.h, g⟩) q1 (y1.gset g)⟩⟩
  · cases hm
theorem i_enumA {e : Expr} {p pos tpos : Pos} {elts : List Expr} {kk : Nat} (hg : Gl X "enumerate") (hm : X.mg "enumerate" = none) (ha : PA X [e] (aM (cyOf X) m)) (hs : starEach [e] X.env = [(false, eval e X.env)] := by rfl) : PI X (.Tuple elts kk tpos) (.Call (.Name "enumerate" p) [e] [] pos) (iM (cyOf X) (miEnumA m)) := PI.imp (pi_enumA hg hm ha hs) fun _ _ _ => im_enumA
end
end My


namespace My
open PySem PySem.Spec PyProof.Rows L2
/-! ### dicts whose keys are tuples of ints and texts -/
def keysOf : List D → Option (List Key)
  | [] => some []
  | d :: ds => (keyOf d).bind fun k => (keysOf ds).map (k :: ·)
def putT (kvs : List (List Key × D)) (k : List Key) (d : D) : List (List Key × D) :=
  if (kvs.any fun kv => decide (kv.1 = k)) = true then kvs.map (fun kv => if kv.1 = k then (kv.1, d) else kv) else kvs ++ [(k, d)]
section
variable {C : Cy} {H : Hb} {as : List Addr}
theorem reps_keys : ∀ {ds : List D} {ks : List Key} {vs : List V}, keysOf ds = some ks → Reps C H as ds vs → vs = ks.map kV
  | [], _, _, h, r => by
    cases h
    exact r
  | d :: ds, _, _, h, ⟨v, r, e, h1, h2⟩ => by
    unfold keysOf at h
    obtain ⟨k, hk, h⟩ := Option.bind_eq_some_iff.mp h
    obtain ⟨ks, hks, e2⟩ := Option.map_eq_some_iff.mp h
    subst e2 e
    rw [List.map_cons, ← rep_key hk h1, ← reps_keys hks h2]
theorem reps_keyD : ∀ (ks : List Key), Reps C H as (ks.map keyD) (ks.map kV)
  | [] => rfl
  | k :: ks => ⟨_, _, rfl, rep_keyD k, reps_keyD ks⟩
section
variable {κ : Type} [DecidableEq κ]
theorem RepKV.anyT : ∀ {kvs : List (κ × D)} {vs : List (κ × V)} (k : κ), RepKV C H as kvs vs → (vs.any fun kv => decide (kv.1 = k)) = (kvs.any fun kv => decide (kv.1 = k))
  | [], _, k, h => by
    have h : _ = [] := h
    subst h
    rfl
  | (j, d) :: kvs, _, k, h => by
    obtain ⟨v, r, rfl, h1, h2⟩ := h
    rw [List.any_cons, List.any_cons, RepKV.anyT k h2]
theorem RepKV.mapPutT {d : D} {v : V} (k : κ) (hr : Rep C H as d v) : ∀ {kvs : List (κ × D)} {vs : List (κ × V)}, RepKV C H as kvs vs → RepKV C H as (kvs.map fun kv => if kv.1 = k then (kv.1, d) else kv) (vs.map fun kv => if kv.1 = k then (kv.1, v) else kv)
  | [], _, h => by
    have h : _ = [] := h
    subst h
    rfl
  | (j, d') :: kvs, _, h => by
    obtain ⟨v', r, rfl, h1, h2⟩ := h
    rw [List.map_cons, List.map_cons]
    by_cases e : j = k
    · simp only [if_pos e]
      exact ⟨v, _, rfl, hr, RepKV.mapPutT k hr h2⟩
    · simp only [if_neg e]
      exact ⟨v', _, rfl, h1, RepKV.mapPutT k hr h2⟩
theorem RepKV.snocT {d : D} {v : V} (k : κ) (hr : Rep C H as d v) : ∀ {kvs : List (κ × D)} {vs : List (κ × V)}, RepKV C H as kvs vs → RepKV C H as (kvs ++ [(k, d)]) (vs ++ [(k, v)])
  | [], _, h => by
    have h : _ = [] := h
    subst h
    exact ⟨v, [], rfl, hr, rfl⟩
  | (j, d') :: kvs, _, h => by
    obtain ⟨v', r, rfl, h1, h2⟩ := h
    exact ⟨v', r ++ [(k, v)], rfl, h1, RepKV.snocT k hr h2⟩
theorem RepKV.lenT : ∀ {kvs : List (κ × D)} {vs : List (κ × V)}, RepKV C H as kvs vs → kvs.length = vs.length
  | [], _, h => by
    have h : _ = [] := h
    subst h
    rfl
  | (j, d) :: kvs, _, h => by
    obtain ⟨v, r, rfl, h1, h2⟩ := h
    simp [RepKV.lenT h2]
theorem RepKV.fstT : ∀ {kvs : List (κ × D)} {vs : List (κ × V)}, RepKV C H as kvs vs → vs.map (·.1) = kvs.map (·.1)
  | [], _, h => by
    have h : _ = [] := h
    subst h
    rfl
  | (j, d) :: kvs, _, h => by
    obtain ⟨v, r, rfl, h1, h2⟩ := h
    rw [List.map_cons, List.map_cons, RepKV.fstT h2]
end
theorem RepKV.putT {d : D} {v : V} (k : List Key) (hr : Rep C H as d v) {kvs : List (List Key × D)} {vs : List (List Key × V)} (h : RepKV C H as kvs vs) : RepKV C H as (My.putT kvs k d) (putK vs k v) := by
  unfold My.putT putK
  rw [h.anyT k]
  split
  · exact h.mapPutT k hr
  · exact h.snocT k hr
end
theorem WR.dt {C : Cy} {H0 : Hb} {H : Hp} {as : List Addr} {st : Sto} (w : WR C H0 as st H) {n : Nat} {kvs : List (List Key × D)} (h : st[n]? = some (.dT kvs)) : ∃ a vs, as[n]? = some a ∧ H0.h a = none ∧ H a = some (.dT vs) ∧ RepKV C H0 as kvs vs := by
  have hl : n < as.length := by rw [w.len]; exact (List.getElem?_eq_some_iff.mp h).1
  rcases w.own n _ _ (List.getElem?_eq_getElem hl) h with z | ⟨z, ho, h1, vs, rfl, h2⟩
  · cases z
  · exact ⟨as[n], vs, List.getElem?_eq_getElem hl, z, h1, h2⟩
def lookT (d : D) (st : Sto) : Option (List (List Key × D)) := match d with
  | .loc n => match st[n]? with
    | some (.dT kvs) => some kvs
    | _ => none
  | _ => none
theorem lookT_ok {C : Cy} {H0 : Hb} {H : Hp} {as : List Addr} {st : Sto} {d : D} {x : V} {kvs : List (List Key × D)} (w : WR C H0 as st H) (r : Rep C H0 as d x) (h : lookT d st = some kvs) : ∃ n a vs, d = .loc n ∧ st[n]? = some (.dT kvs) ∧ as[n]? = some a ∧ x = .ref a ∧ H0.h a = none ∧ H a = some (.dT vs) ∧ RepKV C H0 as kvs vs := by
  cases d with
  | loc n =>
    unfold lookT at h
    dsimp only at h
    split at h
    · rename_i he
      cases h
      obtain ⟨a, vs, h1, h2, h3, h4⟩ := w.dt he
      obtain ⟨a', ha', e⟩ := r
      rw [h1] at ha'
      cases ha'
      exact ⟨n, a, vs, rfl, he, h1, e, h2, h3, h4⟩
    · cases h
  | _ => cases h
def mDNewT : ME := fun _ st => some (.loc st.length, st ++ [.dT []])
theorem em_dnewT {C : Cy} {σ : L2.St} {H : Hp} {Q : VK} : eM C mDNewT σ H Q → tDNewT σ H Q := by
  rintro ⟨H0, as, en, st, d, st', e, w, hm, k⟩
  cases hm
  intro p hp
  obtain ⟨w', l⟩ := w.push (o := .dT []) hp ⟨[], rfl, rfl⟩
  exact k (.ref p) _ _ _ l w' ⟨p, by rw [← w.len]; simp, rfl⟩
/-- d[(.., ..)] = v -/
def fPutT (a b c : D) (st : Sto) : Option Sto := match a, b with
  | .loc n, .tup ds => (lookT a st).bind fun kvs => (keysOf ds).bind fun k => if kvs.length < sizeLine then some (st.set n (.dT (putT kvs k c))) else none
  | _, _ => none
theorem gm_subT {C : Cy} {v : V} {σ : L2.St} {H : Hp} {Q : L2.St → Hp → Prop} {a : ME} {m : MA} : gM C (mgSub a (mTup m) fPutT) v σ H Q → gSub (eM C a) (tTup (aM C m)) rSetK v σ H Q := by
  rintro ⟨H0, as, en, st, d, en', st', e, w, r, hs, k⟩
  unfold mgSub at hs
  obtain ⟨⟨da, s1⟩, ha, hs⟩ := Option.bind_eq_some_iff.mp hs
  obtain ⟨⟨db, s2⟩, hb, hs⟩ := Option.bind_eq_some_iff.mp hs
  obtain ⟨s3, h3, e3⟩ := Option.map_eq_some_iff.mp hs
  cases e3
  refine ⟨H0, as, en, st, da, s1, e, w, ha, fun x H1 as1 H1' l1 w1 r1 => ?_⟩
  unfold mTup at hb
  obtain ⟨⟨ds, s4⟩, hd, hb⟩ := Option.bind_eq_some_iff.mp hb
  dsimp only at hb
  split at hb
  · rename_i hl
    cases hb
    refine ⟨H1, as1, en, s1, ds, _, e.mono l1, w1, hd, fun xs H2 as2 H2' l2 w2 r2 => ⟨by rw [← r2.length]; exact hl, fun p hp => ?_⟩⟩
    unfold fPutT at h3
    split at h3
    · rename_i n ds' hn2 hd'
      cases hd'
      obtain ⟨kvs, h4, h3⟩ := Option.bind_eq_some_iff.mp h3
      obtain ⟨key, h5, h3⟩ := Option.bind_eq_some_iff.mp h3
      split at h3
      · rename_i hz
        cases h3
        obtain ⟨w3, l3⟩ := w2.grow (o := .tup xs) hp
        obtain ⟨n', a', vs, e1, he, ha', rfl, hn', hH, hr⟩ := lookT_ok w3 ((r1.mono l2).mono l3) h4
        cases e1
        cases hn2
        have ek : xs = key.map kV := reps_keys h5 r2
        have rv := (r.mono (l1.trans l2)).mono l3
        refine ⟨a', _, rfl, DPut.t hH (by rw [← ek]; exact upd_same) (by rw [← hr.lenT]; exact hz), ?_⟩
        exact k σ _ _ _ ((l1.trans l2).trans l3) (w3.put ha' hn' ⟨_, rfl, hr.putT key rv⟩) (e.mono ((l1.trans l2).trans l3))
      · cases h3
    · cases h3
  · cases hb
/-! ### list(d.keys()) -/
def keysO (p d : Addr) : HO := .ext fun h => PySem.W.KdlKeysView h p d
theorem keysO_ok {P : Program} {w : World} {H : Hp} {h : Heap} {p d : Addr} (e : h.get? p = some { cls := .type "dict_keys", data := .fields #[.ref d] }) : ObjOk P w H h p (keysO p d) :=
  ⟨⟨_, e, rfl, rfl⟩, ⟨_, e⟩, fun h1 h2 x k => let ⟨o, ho, r⟩ := x; ⟨o, k o ho, r⟩⟩
def rKeysT : V → List V → Hp → VK → Prop := fun x xs H Q => ∃ (a : Addr) (kvs : List (List Key × V)), x = .ref a ∧ xs = [] ∧ H a = some (.dT kvs) ∧ ∀ p, H p = none → Q (.ref p) (upd H p (keysO p a))
section
variable {X : Cx}
theorem mt_keysT : MtR X "dict.keys" rKeysT := by
  intro pins s σ H x xs v us Q I rx rxs h
  obtain ⟨a, kvs, rfl, rfl, ha, q⟩ := h
  cases rx
  cases rxs
  obtain ⟨z, hd, xs', rel, o, es, ep, ho, hx, hdat, _⟩ := dt_of I.hok ha
  refine call_meetsIn PySem.F.slot_dict_keys (show s.TypeIs (.ref a) "dict" from ⟨o, ho, hx.1⟩) PySem.F.entry_dict_keys (PySem.F.args_dict_keys_1 _) (meets_dict_keys_raw a hd) ⟨⟨es, ep, o, ho, hx, hdat⟩, ?_⟩
  have hf : H s.heap.objs.size = none := I.hok.fresh (Nat.le_refl _)
  exact ⟨.ref s.heap.objs.size, upd H s.heap.objs.size (keysO s.heap.objs.size a), I.laid (t' := s.toks) (fun b u e => Heap.get?_push_of_some _ e) (Nat.le_refl _) (keysO_ok (Heap.get?_push_size _ rfl)), rfl, q _ hf⟩
def rListK : List V → Hp → VK → Prop := fun xs H Q => ∃ (p a : Addr) (kvs : List (List Key × V)), xs = [.ref p] ∧ H p = some (keysO p a) ∧ H a = some (.dT kvs) ∧
  ∀ (bs : List Addr), Paired (fun kv b => H b = some (.tup (kv.1.map kV))) kvs bs → ∀ l, H l = none → Q (.ref l) (upd H l (.lst (bs.map V.ref)))
theorem vals_refs : ∀ (bs : List Addr), Vals (bs.map V.ref) (bs.map Value.ref)
  | [] => .nil
  | b :: bs => .cons rfl (vals_refs bs)
theorem kt_bs {H : Hp} : ∀ {kvs : List (List Key × V)} {xs : List (List Key × Addr × Value)}, KT H kvs xs → Paired (fun (kv : List Key × V) (b : Addr) => H b = some (.tup (kv.1.map kV))) kvs (xs.map (·.2.1))
  | _, _, .nil => .nil
  | _, _, .cons h t => .cons h.2.1 (kt_bs t)
theorem call_listK (hc : X.calm = true) : CallR X (.type "list") rListK := by
  intro pins s σ H xs us Q I r q
  obtain ⟨p, a, kvs, rfl, hp, ha, q⟩ := q
  obtain rfl := Vals.ref1 r
  obtain ⟨z, hd, xs', rel, o, es, ep, ho, hx, hdat, hes, his, hn⟩ := dt_of I.hok ha
  have view : PySem.W.KdlKeysView s.heap p a := (show ObjOk X.prog X.w H s.heap p (keysO p a) from I.hok p _ hp).1
  have hsz : es.size = xs'.length := size_of_entries hes
  have hl : kvs.length = xs'.length := Paired.length rel
  refine PySem.W.kdl_call (KdlSrc.rawKeys (r := p) (d := a) (es := es) (ep := ep)) (I.ok.hd hc) ⟨view, o, ho, hx, hdat⟩ (by rw [hsz, ← hl]; exact z) fun h' tk acc c hk hL hit => ?_
  have e2 : acc.toList = (xs'.map (·.2.1)).map Value.ref := by
    refine List.ext_getElem? fun i => ?_
    by_cases hi : i < acc.size
    · obtain ⟨hi2, hv⟩ := hit.2 i acc[i] (Array.getElem?_eq_getElem hi)
      have e3 := entry_at hes i
      rw [Array.getElem?_eq_getElem hi2, List.getElem?_eq_getElem (by rw [← hsz]; exact hi2), Option.map_some] at e3
      have e4 := Option.some.inj e3
      rw [Array.getElem?_toList, Array.getElem?_eq_getElem hi, hv, List.getElem?_map, List.getElem?_map, List.getElem?_eq_getElem (by rw [← hsz]; exact hi2), e4]
      rfl
    · rw [Array.getElem?_toList, Array.getElem?_eq_none (by omega), List.getElem?_eq_none (by
        rw [List.length_map, List.length_map]
        have := hit.1
        omega)]
  have hf : H s.heap.objs.size = none := I.hok.fresh (Nat.le_refl _)
  refine ⟨.ref s.heap.objs.size, upd H s.heap.objs.size (.lst ((xs'.map (·.2.1)).map V.ref)), I.laid (t' := tk) hk (Nat.le_refl _) ⟨by rw [List.length_map, List.length_map, ← hl]; exact z, acc.toList, c, by rw [e2]; exact vals_refs _, by simpa using hL⟩, rfl, q _ (kt_bs rel) _ hf⟩
end
/-- tuples that stand in the heap are taken into what stays -/
theorem WR.adopt {C : Cy} {H0 : Hb} {H : Hp} {as : List Addr} {st : Sto} (w : WR C H0 as st H) {b : Addr} {ys : List V} (hb : H b = some (.tup ys)) : WR C ⟨upd H0.h b (.tup ys), H0.g⟩ as st H ∧ Le H0 as ⟨upd H0.h b (.tup ys), H0.g⟩ as := by
  have l : Le H0 as ⟨upd H0.h b (.tup ys), H0.g⟩ as := ⟨fun c x e => (show upd H0.h b (.tup ys) c = some x by
    by_cases ec : c = b
    · subst ec
      rw [w.ex _ _ e] at hb
      cases hb
      exact upd_same
    · rw [upd_ne ec]
      exact e), rfl, List.prefix_rfl⟩
  refine ⟨⟨fun c x e => ?_, w.nd, w.len, w.liv, fun n a x ha hx => ?_, fun q hq => ?_⟩, l⟩
  · have e : upd H0.h b (.tup ys) c = some x := e
    by_cases ec : c = b
    · subst ec
      rw [upd_same] at e
      cases e
      exact hb
    · rw [upd_ne ec] at e
      exact w.ex c x e
  · rcases w.own n a x ha hx with z | ⟨z, ho, h1, h2⟩
    · exact .inl z
    · by_cases hd : x = .dead
      · exact .inl hd
      · have hab : a ≠ b := fun e => by
          subst e
          rw [hb] at h1
          cases h1
          cases x with
          | dead => exact hd rfl
          | lst ds => obtain ⟨vs, e, _⟩ := h2; cases e
          | dK ds => obtain ⟨vs, e, _⟩ := h2; cases e
          | dT ds => obtain ⟨vs, e, _⟩ := h2; cases e
        exact .inr ⟨(show upd H0.h b (.tup ys) a = none by rw [upd_ne hab]; exact z), ho, h1, h2.mono l⟩
  · obtain ⟨h1, h2, h3⟩ := w.gho q hq
    have hqb : q.1 ≠ b := fun e => by
      rw [e, hb] at h3
      cases h3
    exact ⟨(show upd H0.h b (.tup ys) q.1 = none by rw [upd_ne hqb]; exact h1), h2, h3⟩
theorem WR.adopts {C : Cy} {as : List Addr} {st : Sto} {H : Hp} : ∀ {kvs : List (List Key × D)} {vs : List (List Key × V)} {bs : List Addr} {H0 : Hb}, WR C H0 as st H → vs.map (·.1) = kvs.map (·.1) → Paired (fun (kv : List Key × V) (b : Addr) => H b = some (.tup (kv.1.map kV))) vs bs →
    ∃ H1, WR C H1 as st H ∧ Le H0 as H1 as ∧ Reps C H1 as (kvs.map fun kv => .tup (kv.1.map keyD)) (bs.map V.ref)
  | [], [], [], H0, w, e, .nil => ⟨H0, w, Le.refl, rfl⟩
  | kv :: kvs, p :: vs, b :: bs, H0, w, e, .cons h t => by
    rw [List.map_cons, List.map_cons] at e
    injection e with e1 e2
    obtain ⟨w1, l1⟩ := w.adopt h
    obtain ⟨H2, w2, l2, r2⟩ := WR.adopts w1 e2 t
    refine ⟨H2, w2, l1.trans l2, V.ref b, _, rfl, ?_, r2⟩
    refine ⟨b, p.1.map kV, rfl, .inl (.inl (l2.same _ _ (show upd H0.h b _ b = _ from upd_same))), ?_⟩
    rw [e1]
    exact reps_keyD _
/-- list(d.keys()) -/
def mKeysT (mu : Bool) (a : ME) : ME := fun en st => (a en st).bind fun p => (lookT p.1 p.2).map fun kvs => alloc mu (kvs.map fun kv => .tup (kv.1.map keyD)) p.2
theorem em_keysT {C : Cy} {mu : Bool} {a : ME} {σ : L2.St} {H : Hp} {Q : VK} : eM C (mKeysT mu a) σ H Q → tCB rListK (tCons (tBM0 C.K "dict" rKeysT (eM C a)) tNil) σ H Q := by
  rintro ⟨H0, as, en, st, d, st', e, w, hm, k⟩
  unfold mKeysT at hm
  obtain ⟨⟨da, s1⟩, ha, hm⟩ := Option.bind_eq_some_iff.mp hm
  obtain ⟨kvs, h1, e1⟩ := Option.map_eq_some_iff.mp hm
  refine ⟨H0, as, en, st, da, s1, e, w, ha, fun x H1 as1 H1' l1 w1 r1 => ?_⟩
  obtain ⟨n, a', vs, e2, he, ha', rfl, hn, hH, hr⟩ := lookT_ok w1 r1 h1
  refine ⟨.inr (.inr (.inl ⟨rfl, .inr ⟨vs, hH⟩⟩)), a', vs, rfl, rfl, hH, fun p hp => ?_⟩
  obtain ⟨w2, l2⟩ := w1.grow (o := keysO p a') hp
  refine ⟨p, a', vs, rfl, upd_same, by rw [upd_ne (ne_of_none hH hp)]; exact hH, fun bs hbs => ?_⟩
  obtain ⟨H3, w3, l3, r3⟩ := w2.adopts hr.fstT hbs
  exact (k.mono ((l1.trans l2).trans l3)).newA e1 w3 r3
section
variable {X : Cx} {a b o : Expr} {ma mo : ME} {mr : MA} {pos p : Pos} {x : Str} {es : List Expr}
theorem x_dnewT : PE X (.Dict [] [] pos) (eM (cyOf X) mDNewT) := PE.imp pe_dnewT fun _ _ _ => em_dnewT
theorem g_subT {k kk : Nat} {p2 : Pos} (hr : Room k X.A) (ho : PE X a (eM (cyOf X) ma)) (hi : PA X es (aM (cyOf X) mr)) (ha : ∀ v, assign (.Subscript a (.Tuple es kk p2) pos) X.env v = (do
      let ov ← holding [v] (eval a X.env)
      let iv ← holding [v, ov] (eval (.Tuple es kk p2) X.env)
      standAt pos
      holding [v, ov, iv] (setItem ov iv v)
      release [v, ov, iv] []) := by intro _; rfl) : PG X (.Subscript a (.Tuple es kk p2) pos) (gM (cyOf X) (mgSub ma (mTup mr) fPutT)) := PG.imp (pg_sub ho (pe_tup hi) (set_K hr.units) ha) fun _ _ _ _ => gm_subT
theorem x_keysT (mu : Bool) {apos cpos : Pos} (hc : X.calm = true) (hg : Gl X "list") (hm : X.mg "list" = none) (hv : bootBuiltins "list" = some (.type "list")) (ho : PE X o (eM (cyOf X) mo)) (hbase : attributeBase o "keys" X.env (eval o X.env) = eval o X.env := by rfl) (hline : (apos.endLine == cpos.line) = true := by rfl)
    (he : starEach [.Call (.Attribute o "keys" apos) [] [] cpos] X.env = (false, eval (.Call (.Attribute o "keys" apos) [] [] cpos) X.env) :: starEach [] X.env := by rfl) (hpl : (backTo pos (starEach [] X.env)).any (·.1) = false := by rfl) :
    PE X (.Call (.Name "list" p) [.Call (.Attribute o "keys" apos) [] [] cpos] [] pos) (eM (cyOf X) (mKeysT mu mo)) :=
  PE.imp (pe_callTy (call_listK hc) hg hm hv (pa_cons (pe_bm0 PySem.F.plainAttrs_dict PySem.F.slot_dict_keys PySem.F.type_dict_keys mt_keysT ho hbase hline) pa_nil he) (by decide) (by decide) he hpl) fun _ _ _ => em_keysT
end
end My


namespace My
open PySem PySem.Spec PyProof.Rows L2
/-! ### dict(xs) of a list of pairs -/
def pairOf : D → Option (Key × D)
  | .tup [k, v] => (keyOf k).map fun j => (j, v)
  | _ => none
def pairsOf : List D → Option (List (Key × D))
  | [] => some []
  | d :: ds => (pairOf d).bind fun p => (pairsOf ds).map (p :: ·)
def fDictP (ds : List D) (st : Sto) : Option (D × Sto) := match ds with
  | [d] => (lookL d st).bind fun es => (pairsOf es).map fun kvs => (.loc st.length, st ++ [.dK (mergeD [] kvs)])
  | _ => none
theorem reps_prs {C : Cy} {H0 : Hb} {as : List Addr} {H : Hp} (sm : Same H0.h H) : ∀ {es : List D} {kvs : List (Key × D)} {vs : List V}, pairsOf es = some kvs → Reps C H0 as es vs →
    ∃ (ps : List Addr) (us : List (Key × V)), vs = ps.map V.ref ∧ Paired (fun (p : Addr) (kv : Key × V) => SqT C.K H p [kV kv.1, kv.2]) ps us ∧ RepKV C H0 as kvs us
  | [], _, _, h, r => by
    cases h
    cases (show _ = [] from r)
    exact ⟨[], [], rfl, .nil, rfl⟩
  | d :: ds, _, _, h, ⟨v, r, e, h1, h2⟩ => by
    unfold pairsOf at h
    obtain ⟨kv, hk, h⟩ := Option.bind_eq_some_iff.mp h
    obtain ⟨kvs, hks, e2⟩ := Option.map_eq_some_iff.mp h
    subst e2 e
    obtain ⟨ps, us, e3, hp, hr⟩ := reps_prs sm hks h2
    unfold pairOf at hk
    split at hk
    · rename_i dk dv
      obtain ⟨j, hj, ej⟩ := Option.map_eq_some_iff.mp hk
      subst ej
      obtain ⟨b, ws, rfl, hs, wk, w2, rfl, rk, wv, w3, rfl, rv, w4⟩ := h1
      cases (show _ = [] from w4)
      cases rep_key hj rk
      exact ⟨b :: ps, (j, wv) :: us, by rw [e3]; rfl, .cons (same_seqT sm hs) hp, wv, us, rfl, rv, hr⟩
    · cases hk
theorem ok_dictP {C : Cy} : OkC C (fun xs H Q => ∃ (a : Addr) (ps : List Addr) (kvs : List (Key × V)), xs = [.ref a] ∧ SqL C.K H a (ps.map V.ref) ∧ Paired (fun p kv => SqT C.K H p [kV kv.1, kv.2]) ps kvs ∧
    ∀ p, H p = none → Q (.ref p) (upd H p (.dK (mergeK [] kvs)))) fDictP := by
  intro H0 as st H ds vs d st' Q w r hf k
  unfold fDictP at hf
  split at hf
  · obtain ⟨v, rfl, rv⟩ := reps1 r
    obtain ⟨es, he, hf⟩ := Option.bind_eq_some_iff.mp hf
    obtain ⟨kvs, hk, e⟩ := Option.map_eq_some_iff.mp hf
    cases e
    obtain ⟨a, us, rfl, hs, hr⟩ := lookL_seq w rv he
    obtain ⟨ps, ks, rfl, hp, hq⟩ := reps_prs w.ex hk hr
    refine ⟨a, ps, ks, rfl, SqL.of hs, hp, fun p hn => ?_⟩
    obtain ⟨w', l⟩ := w.push (o := .dK (mergeD [] kvs)) hn ⟨_, rfl, RepKV.merge hq rfl⟩
    exact k (.ref p) _ _ _ l w' ⟨p, by rw [← w.len]; simp, rfl⟩
  · cases hf
/-! ### {e: v, ..} -/
def mPE : List (ME × ME) → En → Sto → Option (List (Key × D) × Sto)
  | [], _, st => some ([], st)
  | (mk, mv) :: r, en, st => (mk en st).bind fun p => (keyOf p.1).bind fun k => (mv en p.2).bind fun q => (mPE r en q.2).map fun z => ((k, q.1) :: z.1, z.2)
def mDispE (kms : List (ME × ME)) : ME := fun en st => (mPE kms en (st ++ [.dK []])).bind fun p => match p.2[st.length]? with
  | some (.dK []) => some (.loc st.length, p.2.set st.length (.dK (mergeD [] p.1)))
  | _ => none
theorem te_ok {C : Cy} {σ : L2.St} : ∀ {kms : List (ME × ME)} {H0 : Hb} {as : List Addr} {en : En} {st st' : Sto} {kds : List (Key × D)} {H : Hp} {Q : List (V × V) → Hp → Prop}, EnR C H0 as en σ → WR C H0 as st H → mPE kms en st = some (kds, st') →
    (∀ kvs H1 as1 H', Le H0 as H1 as1 → WR C H1 as1 st' H' → RepKV C H1 as1 kds kvs → kvs.length = kms.length → Q (kvs.map fun kv => (kV kv.1, kv.2)) H') →
    tPairs (kms.map fun p => (eM C p.1, eM C p.2)) σ H Q
  | [], H0, as, en, st, st', kds, H, Q, e, w, h, k => by
    cases h
    exact k [] H0 as H Le.refl w rfl rfl
  | (mk, mv) :: r, H0, as, en, st, st', kds, H, Q, e, w, h, k => by
    unfold mPE at h
    obtain ⟨⟨d1, s1⟩, h1, h⟩ := Option.bind_eq_some_iff.mp h
    obtain ⟨key, hk, h⟩ := Option.bind_eq_some_iff.mp h
    obtain ⟨⟨d2, s2⟩, h2, h⟩ := Option.bind_eq_some_iff.mp h
    obtain ⟨⟨z, s3⟩, h3, e3⟩ := Option.map_eq_some_iff.mp h
    cases e3
    refine ⟨H0, as, en, st, d1, s1, e, w, h1, fun x H1 as1 H1' l1 w1 r1 => ?_⟩
    cases rep_key hk r1
    refine ⟨H1, as1, en, s1, d2, s2, e.mono l1, w1, h2, fun y H2 as2 H2' l2 w2 r2 => ?_⟩
    refine te_ok (e.mono (l1.trans l2)) w2 h3 fun kvs H3 as3 H3' l3 w3 r3 hl => ?_
    have q := k ((key, y) :: kvs) H3 as3 H3' ((l1.trans l2).trans l3) w3 ⟨y, kvs, rfl, r2.mono l3, r3⟩ (by rw [List.length_cons, List.length_cons, hl])
    exact q
theorem em_dispE {C : Cy} {σ : L2.St} {H : Hp} {Q : VK} {kms : List (ME × ME)} (h15 : kms.length ≤ 15) : eM C (mDispE kms) σ H Q → tDisp (kms.map fun p => (eM C p.1, eM C p.2)) σ H Q := by
  rintro ⟨H0, as, en, st, d, st', e, w, hm, k⟩
  intro p hp
  obtain ⟨w', l⟩ := w.push (o := .dK []) hp ⟨[], rfl, rfl⟩
  unfold mDispE at hm
  obtain ⟨⟨ds, s1⟩, h1, hm⟩ := Option.bind_eq_some_iff.mp hm
  dsimp only at hm
  split at hm
  · rename_i hd
    cases hm
    refine te_ok (e.mono l) w' h1 fun vs H1 as1 H' l1 w1 r1 hl => ?_
    obtain ⟨a, us, ha, hn, hH, hr⟩ := w1.dk hd
    have ep : a = p := by
      have z : (as ++ [p])[st.length]? = some p := by rw [← w.len]; simp
      have z2 := pre_get l1.pre z
      rw [ha] at z2
      cases z2
      rfl
    subst ep
    cases (show us = [] from hr)
    refine ⟨hH, vs, rfl, by omega, ?_⟩
    exact k (.ref a) H1 as1 _ (l.trans l1) (w1.put ha hn ⟨_, rfl, RepKV.merge r1 rfl⟩) ⟨a, ha, rfl⟩
  · cases hm
section
variable {X : Cx} {k v : Expr} {mk mv : ME} {pos : Pos}
theorem c_dictP (hc : X.calm = true := by rfl) : CallR X (.type "dict") (fun xs H Q => ∃ (a : Addr) (ps : List Addr) (kvs : List (Key × V)), xs = [.ref a] ∧ SqL X.K H a (ps.map V.ref) ∧ Paired (fun p kv => SqT X.K H p [kV kv.1, kv.2]) ps kvs ∧
    ∀ p, H p = none → Q (.ref p) (upd H p (.dK (mergeK [] kvs)))) ∧ OkC (cyOf X) (fun xs H Q => ∃ (a : Addr) (ps : List Addr) (kvs : List (Key × V)), xs = [.ref a] ∧ SqL X.K H a (ps.map V.ref) ∧ Paired (fun p kv => SqT X.K H p [kV kv.1, kv.2]) ps kvs ∧
    ∀ p, H p = none → Q (.ref p) (upd H p (.dK (mergeK [] kvs)))) fDictP := ⟨call_dictP hc, ok_dictP⟩
theorem pe_nil : PPs X pos [] [] (([] : List (ME × ME)).map fun p => (eM (cyOf X) p.1, eM (cyOf X) p.2)) := pps_nil
theorem pe_one {ks : List (Option Expr)} {vs : List Expr} {kms : List (ME × ME)} (hk : PE X k (eM (cyOf X) mk)) (hv : PE X v (eM (cyOf X) mv)) (hr : PPs X pos ks vs (kms.map fun p => (eM (cyOf X) p.1, eM (cyOf X) p.2))) :
    PPs X pos (some k :: ks) (v :: vs) (((mk, mv) :: kms).map fun p => (eM (cyOf X) p.1, eM (cyOf X) p.2)) := pps_cons hk hv hr
theorem x_dispE {keys : List (Option Expr)} {values : List Expr} {kms : List (ME × ME)} (h : PPs X pos keys values (kms.map fun p => (eM (cyOf X) p.1, eM (cyOf X) p.2))) (h15 : kms.length ≤ 15) (hall : keys.all (·.isSome) = true := by rfl) (hl : keys.length = values.length := by rfl) (h0 : keys ≠ [] := by simp) (hk : keys.length ≤ 15 := by decide) : PE X (.Dict keys values pos) (eM (cyOf X) (mDispE kms)) :=
  PE.imp (pe_disp h hall hl h0 hk) fun _ _ _ => em_dispE h15
end
end My


namespace My
open PySem PySem.Spec PyProof.Rows L2
/-! ### range(i, j, -1) -/
def rngN (lo : Int) (n : Nat) : List D := (List.range n).map fun (i : Nat) => D.int (lo - (i : Int))
def miRng3 (m : MA) : MI := fun en st => (m en st).bind fun p => match p.1 with
  | [.int i, .int j, .int k] => if k = -1 ∧ small i = true ∧ small j = true then some (⟨rngN i (i - j).toNat, none⟩, p.2) else none
  | _ => none
theorem itOk_rngN {C : Cy} {H : Hb} {as : List Addr} {lo : Int} {n : Nat} : ItOk C (Itc lo (-1) n) ⟨rngN lo n, none⟩ H as := by
  intro H1 as1 st1 H' i l w _
  refine ⟨fun d hd => ?_, fun hi => ?_⟩
  · have hlt : i < n := by
      have := (List.getElem?_eq_some_iff.mp hd).1
      simpa [rngN] using this
    have e : D.int (lo - (i : Int)) = d := by
      simpa [rngN, hlt] using hd
    refine ⟨hlt, ?_⟩
    rintro x H2 ⟨rfl, rfl⟩
    exact ⟨H1, as1, Le.refl, w, by rw [← e]; show V.int _ = V.int _; congr 1; omega⟩
  · show n ≤ i
    simpa [rngN] using hi
section
variable {C : Cy} {σ : L2.St} {H : Hp} {R : It → Hp → Prop} {ma : MA}
theorem im_rng3 : iM C (miRng3 ma) σ H R → iRng3 (aM C ma) σ H R := by
  rintro ⟨H0, as, en, st, s, st', e, w, hm, k⟩
  unfold miRng3 at hm
  obtain ⟨⟨d, s1⟩, ha, hm⟩ := Option.bind_eq_some_iff.mp hm
  dsimp only at hm
  split at hm
  · split at hm
    · rename_i hb
      cases hm
      obtain ⟨rfl, hb1, hb2⟩ := hb
      refine ⟨H0, as, en, st, _, _, e, w, ha, fun vs H1 as1 H1' l1 w1 r1 => ?_⟩
      obtain ⟨v, r, rfl, rv, r2⟩ := r1
      obtain ⟨v', r', rfl, rv', r3⟩ := r2
      obtain ⟨v'', r'', rfl, rv'', r4⟩ := r3
      cases (show _ = [] from r4)
      cases rep_int rv
      cases rep_int rv'
      cases rep_int rv''
      have hs := small_le hb1
      have ht := small_le hb2
      have e62 : (2 : Int) ^ 62 = 4611686018427387904 := by decide
      exact ⟨_, _, _, _, rfl, RgC.neg (by omega) (by omega) (by omega) (by omega), k _ H1 as1 H1' l1 w1 fun g => itOk_rngN⟩
    · cases hm
  · cases hm
end
section
variable {X : Cx} {a b c : Expr} {mr : MA} {pos p : Pos}
theorem i_rng3 {tg : Expr} (hg : Gl X "range") (hm : X.mg "range" = none) (ha : PA X [a, b, c] (aM (cyOf X) mr)) (hs : starEach [a, b, c] X.env = (false, eval a X.env) :: starEach [b, c] X.env := by rfl) (hpl : (backTo pos (starEach [b, c] X.env)).any (·.1) = false := by rfl) :
    PI X tg (.Call (.Name "range" p) [a, b, c] [] pos) (iM (cyOf X) (miRng3 mr)) := PI.imp (pi_range3 hg hm ha hs hpl) fun _ _ _ => im_rng3
end
end My


namespace My
open PySem PySem.Spec PySem.Calls PyProof.Rows L2
/-! ### a < b < c -/
def mChain (f g : D → D → Sto → Option (D × Sto)) (ma mb mc : ME) : ME := fun en st => (ma en st).bind fun p => (mb en p.2).bind fun q => (f p.1 q.1 q.2).bind fun r => match r.1 with
  | .bl true => (mc en r.2).bind fun z => g q.1 z.1 z.2
  | .bl false => some (.bl false, r.2)
  | _ => none
section
variable {C : Cy} {σ : L2.St} {H : Hp} {Q : VK} {ma mb mc : ME}
theorem em_chain {r r' : R2} {f g : D → D → Sto → Option (D × Sto)} (hf : Ok2 C r f) (hg : Ok2 C r' g) : eM C (mChain f g ma mb mc) σ H Q → tChain r r' (eM C ma) (eM C mb) (eM C mc) σ H Q := by
  rintro ⟨H0, as, en, st, d, st', e, w, hm, k⟩
  unfold mChain at hm
  obtain ⟨⟨da, s1⟩, ha, hm⟩ := Option.bind_eq_some_iff.mp hm
  obtain ⟨⟨db, s2⟩, hb, hm⟩ := Option.bind_eq_some_iff.mp hm
  obtain ⟨⟨dr, s3⟩, hr, hm⟩ := Option.bind_eq_some_iff.mp hm
  refine ⟨H0, as, en, st, da, s1, e, w, ha, fun x H1 as1 H1' l1 w1 r1 => ?_⟩
  refine ⟨H1, as1, en, s1, db, s2, e.mono l1, w1, hb, fun y H2 as2 H2' l2 w2 r2 => ?_⟩
  refine hf H2 as2 s2 H2' da db x y dr s3 _ w2 (r1.mono l2) r2 hr fun z H3 as3 H3' l3 w3 r3 => ?_
  dsimp only at hm
  split at hm
  · obtain ⟨⟨dc, s4⟩, hc, hm⟩ := Option.bind_eq_some_iff.mp hm
    refine ⟨true, rep_bl r3, ?_⟩
    rw [if_pos rfl]
    exact ⟨H3, as3, en, s3, dc, s4, e.mono (l1.trans (l2.trans l3)), w3, hc, fun u H4 as4 H4' l4 w4 r4 => hg H4 as4 s4 H4' db dc y u d st' Q w4 (r2.mono (l3.trans l4)) r4 hm (k.mono (l1.trans (l2.trans (l3.trans l4))))⟩
  · cases hm
    refine ⟨false, rep_bl r3, ?_⟩
    rw [if_neg Bool.false_ne_true]
    exact k _ H3 as3 H3' (l1.trans (l2.trans l3)) w3 rfl
  · cases hm
end
section
variable {X : Cx} {a b c : Expr} {ma mb mc : ME} {pos : Pos}
theorem x_chain {op op' : CmpOp} {r r' : R2} {f g : D → D → Sto → Option (D × Sto)} (h : OpR X (compareOp op) r ∧ Ok2 (cyOf X) r f) (h' : OpR X (compareOp op') r' ∧ Ok2 (cyOf X) r' g) (ha : PE X a (eM (cyOf X) ma)) (hb : PE X b (eM (cyOf X) mb)) (hc : PE X c (eM (cyOf X) mc))
    (hm : lastMarks [op, op'] [b, c] = false := by with_unfolding_all rfl) : PE X (.Compare a [op, op'] [b, c] pos) (eM (cyOf X) (mChain f g ma mb mc)) := PE.imp (pe_chain h.1 h'.1 ha hb hc hm) fun _ _ _ => em_chain h.2 h'.2
theorem y_chain {op op' : CmpOp} {r r' : R2} {f g : D → D → Sto → Option (D × Sto)} (h : OpR X (compareOp op) r ∧ Ok2 (cyOf X) r f) (h' : OpR X (compareOp op') r' ∧ Ok2 (cyOf X) r' g) (ha : PE X a (eM (cyOf X) ma)) (hb : PE X b (eM (cyOf X) mb)) (hc : PE X c (eM (cyOf X) mc))
    (hm : lastMarks [op, op'] [b, c] = false := by with_unfolding_all rfl) : PT X (.Compare a [op, op'] [b, c] pos) (bM (cyOf X) (mTB (mChain f g ma mb mc))) := PT.imp (pt_chain h.1 h'.1 ha hb hc hm) fun _ _ _ h3 => em_chain h.2 h'.2 (bm_bool h3)
end

/-! ### texts: signs -/
def sgn (c : Nat) : D := .str ⟨#[c]⟩
def signs (x : Str) : List D := x.cps.toList.map sgn
def oneOf (x : Str) : Option Nat := match x.cps.toList with
  | [c] => some c
  | _ => none
theorem oneOf_eq {x : Str} {c : Nat} (h : oneOf x = some c) : x = ⟨#[c]⟩ := by
  obtain ⟨⟨l⟩⟩ := x
  unfold oneOf at h
  dsimp only at h
  split at h
  · cases h
    rfl
  · cases h
def fInT (neg : Bool) (a b : D) (st : Sto) : Option (D × Sto) := match a, b with
  | .str x, .str z => (oneOf x).map fun c => (.bl (if neg then !decide (c ∈ z.cps.toList) else decide (c ∈ z.cps.toList)), st)
  | _, _ => none
def rInT (neg : Bool) : R2 := fun x y H Q => ∃ (c : Nat) (z : Str), x = .str ⟨#[c]⟩ ∧ y = .str z ∧ Q (.bl (if neg then !decide (c ∈ z.cps.toList) else decide (c ∈ z.cps.toList))) H
theorem ok_inT {C : Cy} {neg : Bool} : Ok2 C (rInT neg) (fInT neg) := by
  intro H0 as st H dx dy x y d st' Q w rx ry hf k
  unfold fInT at hf
  split at hf
  · obtain ⟨c, hc, e⟩ := Option.map_eq_some_iff.mp hf
    cases e
    cases oneOf_eq hc
    exact ⟨c, _, rep_str rx, rep_str ry, k.val w rfl⟩
  · cases hf
def fLeA (a b : D) (st : Sto) : Option (D × Sto) := match a, b with
  | .int i, .int j => some (.bl (decide (i ≤ j)), st)
  | .str i, .str j => some (.bl (!decide (j.cps.toList < i.cps.toList)), st)
  | _, _ => none
def rLeA : R2 := fun x y H Q => (rI0 fun i j => .bl (decide (i ≤ j))) x y H Q ∨ (∃ i j, x = .str i ∧ y = .str j ∧ Q (.bl (!decide (j.cps.toList < i.cps.toList))) H)
theorem ok_leA {C : Cy} : Ok2 C rLeA fLeA := by
  intro H0 as st H dx dy x y d st' Q w rx ry hf k
  unfold fLeA at hf
  split at hf
  · cases hf
    exact .inl ⟨_, _, rep_int rx, rep_int ry, k.val w rfl⟩
  · cases hf
    exact .inr ⟨_, _, rep_str rx, rep_str ry, k.val w rfl⟩
  · cases hf
section
variable {X : Cx}
theorem k_inT : OpR X (compareOp .In) (rInT false) ∧ Ok2 (cyOf X) (rInT false) (fInT false) := ⟨op_in_sign, ok_inT⟩
theorem k_niT : OpR X (compareOp .NotIn) (rInT true) ∧ Ok2 (cyOf X) (rInT true) (fInT true) := ⟨op_notIn_sign, ok_inT⟩
theorem k_leA : OpR X (compareOp .LtE) rLeA ∧ Ok2 (cyOf X) rLeA fLeA := ⟨OpR.or op_le op_le_str, ok_leA⟩
end
def miStr (m : ME) : MI := fun en st => (m en st).bind fun p => match p.1 with
  | .str x => some (⟨signs x, none⟩, p.2)
  | _ => none
theorem itOk_str {C : Cy} {H : Hb} {as : List Addr} {x : Str} : ItOk C (Its x) ⟨signs x, none⟩ H as := by
  intro H1 as1 st1 H' i l w _
  refine ⟨fun d hd => ?_, fun hi => ?_⟩
  · unfold signs at hd
    rw [List.getElem?_map] at hd
    obtain ⟨c, hc, rfl⟩ := Option.map_eq_some_iff.mp hd
    have hc : x.cps[i]? = some c := by rw [← Array.getElem?_toList]; exact hc
    refine ⟨(Array.getElem?_eq_some_iff.mp hc).1, ?_⟩
    rintro v H2 ⟨rfl, c', h1, rfl⟩
    rw [hc] at h1
    cases h1
    exact ⟨H1, as1, Le.refl, w, rfl⟩
  · show x.cps.size ≤ i
    simpa [signs] using hi
section
variable {C : Cy} {σ : L2.St} {H : Hp} {R : It → Hp → Prop} {ma : ME}
theorem im_str : iM C (miStr ma) σ H R → iStr (eM C ma) σ H R := by
  rintro ⟨H0, as, en, st, s, st', e, w, hm, k⟩
  unfold miStr at hm
  obtain ⟨⟨d, s1⟩, ha, hm⟩ := Option.bind_eq_some_iff.mp hm
  dsimp only at hm
  split at hm
  · cases hm
    exact ⟨H0, as, en, st, _, _, e, w, ha, fun v H1 as1 H1' l1 w1 r1 => ⟨_, rep_str r1, k _ H1 as1 H1' l1 w1 fun g => itOk_str⟩⟩
  · cases hm
end
theorem i_str {X : Cx} {tg e : Expr} {ma : ME} (ha : PE X e (eM (cyOf X) ma)) : PI X tg e (iM (cyOf X) (miStr ma)) := PI.imp (pi_str ha) fun _ _ _ => im_str
/-! ### str(x) -/
def fStr (ds : List D) (st : Sto) : Option (D × Sto) := match ds with
  | [.int i] => if i.natAbs.log2 < 1920 then some (.str (toString i), st) else none
  | _ => none
theorem ok_str {C : Cy} : OkC C (fun xs H Q => ∃ i, xs = [.int i] ∧ i.natAbs.log2 < 1920 ∧ Q (.str (toString i)) H) fStr := by
  intro H0 as st H ds vs d st' Q w r hf k
  unfold fStr at hf
  split at hf
  · split at hf
    · rename_i hl
      cases hf
      obtain ⟨v, rfl, rv⟩ := reps1 r
      exact ⟨_, by rw [rep_int rv], hl, k.val w rfl⟩
    · cases hf
  · cases hf
theorem c_str {X : Cx} : CallR X (.type "str") (fun xs H Q => ∃ i, xs = [.int i] ∧ i.natAbs.log2 < 1920 ∧ Q (.str (toString i)) H) ∧ OkC (cyOf X) (fun xs H Q => ∃ i, xs = [.int i] ∧ i.natAbs.log2 < 1920 ∧ Q (.str (toString i)) H) fStr := ⟨call_str_int, ok_str⟩
end My


namespace My
open PySem PySem.Spec PySem.Calls PyProof.Rows L2 PySem.W
/-! ### isinstance of a caught error that has fields -/
section
variable {prog : Program} {w : World} {A : Around} {E : Value → Shared → Prop} {s : Shared} {K : Frag} {x D : Addr} {ox : Obj} {od : Option Obj}
theorem clsFound (T : ExcC K D) : findObj K D od "__class__" = some (.bind (.builtin "getset_descriptor.__get__") (.builtin "object.__class__")) := by
  obtain ⟨cd, e, _⟩ := any_some T.hd
  have ha := T.ha
  have hn := T.hn
  have ht := T.ht
  unfold findObj
  rw [e, Option.bind_some, ha, Option.bind_some]
  simp [hn, ht]
theorem askClass {Q : Option Value → Shared → Prop} (T : ExcC K D) (X : K.In s.heap) (I : InstAt s.heap x ox D od) (h : Q (some (.ref D)) { s with toks := s.toks + 1 }) : wpAny (model prog w) A (getAttr? (.ref x) "__class__") Q E s := by
  obtain ⟨hp, gs, dn, n, os⟩ := s
  have la := I.type (M := model prog w)
  have lb := looks_findIn (M := model prog w) X T.hg
  have lc := looks_findIn (M := model prog w) X T.hk
  have le := looks_find (M := model prog w) X I (clsFound T)
  have sb : Looks (model prog w) hp (isInstance (.ref x) (.type "BaseException")) true := la.andThen (looks_subIn X T.hs)
  have z1 : (Value.builtin "BaseException.__getattribute__" == .builtin "object.__getattribute__") = false := by decide +kernel
  have z2 : (onTheHeap (.ref D) && Value.builtin "BaseException.__getattribute__" == .builtin "object.__getattribute__") = false := by rw [z1]; rfl
  have z3 : (false && onTheHeap (.builtin "BaseException.__getattribute__")) = false := rfl
  unfold getAttr? getAttrBy? getAttrBy
  refine wpAny_bind (wpAny_mkText (wpAny_bind (wpAny_attempt (wpAny_holding (wpAny_bind (la.at (wpAny_bind (lb.at (?_ : _)))))))))
  show wpAny _ _ (if (onTheHeap (.ref D) && Value.builtin "BaseException.__getattribute__" == .builtin "object.__getattribute__") = true then _ else _) _ _ _
  rw [z2, if_neg Bool.false_ne_true]
  unfold getAttrByItsOwn hookBefore
  refine wpAny_bind (?_ : _)
  have z4 : onTheHeap (Value.ref D) = true := rfl
  rw [if_pos z4]
  refine lc.at (wpAny_bind (wpAny_attempt (wpAny_holding (?_ : _))))
  unfold callGetattribute
  rw [z3, if_neg Bool.false_ne_true]
  unfold boundAndCalled
  rw [PySem.F.excAttr_ValueError.ga.bind (.ref x)]
  refine wpAny_bind (wpAny_pure (?_ : _))
  show wpAny _ _ (call (.builtin "BaseException.__getattribute__") [.ref x, .str "__class__" n]) _ _ _
  refine wpAny_call (codeAny_call_builtin PySem.F.excAttr_ValueError.ga.plain PySem.F.entry_bexc_ga (?_ : _))
  refine @check_slot (model prog w) _ _ ⟨hp, gs, dn, n + 1, os⟩ "BaseException.__getattribute__" "BaseException" "__getattribute__" (.ref x) [.str "__class__" n] [] _ (by decide +kernel) (by decide +kernel) sb (PySem.F.args_bexc_ga (.ref x) (.str "__class__" n)) (?_ : _)
  unfold Builtin.«object.__getattribute__»
  refine wpAny_bind (wpAny_of_eq (a := ((Value.ref x : Value), [Value.str "__class__" n])) (by first | rfl | (simp only [slotArgs]; rfl)) (?_ : _))
  refine wpAny_bind (wpAny_pure (wpAny_bind (la.at (wpAny_bind (le.at (?_ : _))))))
  show wpAny _ _ (holding [.builtin "object.__class__"] (call (.builtin "getset_descriptor.__get__") [.builtin "object.__class__", .ref x, .ref D]) >>= ret) _ _ _
  refine wpAny_bind (wpAny_holding (wpAny_call (class_get (s := ⟨hp, gs, dn, n + 1, os⟩) (ox := ox) (od := od) X I T.hm (?_ : _))))
  refine wpAny_pure (?_ : wpAny _ _ (handedOut (.ref D)) _ _ _)
  have z5 : handedIn (Value.ref D) = true := rfl
  rw [handedOut_of z5]
  first
    | exact wpAny_pure h
    | exact wpAny_pure (wpAny_pure h)
    | exact wpAny_pure (wpAny_bind (wpAny_pure (wpAny_pure h)))
theorem kitE (T : ExcC K D) : KitX K (.ref x) (.ref D) (fun h => InstAt h x ox D od) where
  ca := fun X I k => askClass T X I k
  ty := fun _ _ _ I => I.type
  ne := fun h tp dd its n sl X htp => by
    obtain ⟨cd, e, _⟩ := any_some T.hd
    refine Bool.eq_false_iff.mpr fun q => ?_
    cases Value.ref.inj (beq_iff_eq.mp q)
    unfold clsIn at e
    split at e
    · rename_i ho
      cases (X _ _ ho).symm.trans htp
    · cases e
  it := fun _ _ X _ => by
    obtain ⟨cd, e, _⟩ := any_some T.hd
    unfold clsIn at e
    split at e
    · rename_i ho
      intro A' Q' E' s' k q
      unfold isType loadHead
      exact wpAny_bind (wpAny_loadPart (k _ _ (X _ _ ho)) (wpAny_pure q))
    · cases e
end
def rIsX (K : PySem.W.Frag) (D a dd : Addr) : List V → Hp → VK → Prop := fun xs H Q => ∃ (c : V) (cv : Value) (b : Bool) (gs : List (Str × V)), xs = [.ref a, c] ∧ (∀ u, RelV c u → u = cv) ∧ H dd = some (.xd gs) ∧ PySem.W.kitOne K (.ref D) cv = some b ∧ Q (.bl b) H
theorem call_isX {X : Cx} {a D dd : Addr} {oe : Obj} {pn : List (Addr × Obj)} (T : ExcC X.K D) (hz : Zc (.ref D) (some dd) oe) (hf : ∃ vs, oe.data = .fields vs) : CallR (X.suite a ((a, oe) :: pn)) (.builtin "isinstance") (rIsX X.K D a dd) := by
  intro pins s σ H xs us Q I r h
  obtain ⟨c, cv, b, gs, rfl, hcv, hdd, e, q⟩ := h
  obtain ⟨u1, u2, rfl, r1, r2⟩ := vals2 r
  cases r1
  have ec := hcv _ r2
  subst ec
  have hget := (I.pin (a, oe) (List.mem_append.mpr (.inl List.mem_cons_self))).1
  obtain ⟨vs, hv⟩ := hf
  obtain ⟨mA, ⟨o2, es, ep, h2, _⟩, _⟩ := (show ObjOk X.prog X.w H s.heap dd (.xd gs) from I.hok dd _ hdd)
  have J : PySem.W.InstAt s.heap a oe D (some o2) := by
    obtain ⟨oc, oo, oda, osl⟩ := oe
    obtain ⟨e1, e2⟩ := hz
    dsimp only at e1 e2 hv
    subst e1 e2 hv
    exact ⟨hget, rfl, rfl, h2⟩
  exact PySem.W.kia_one (kitE T) I.kIn J e (fun z => by cases z) fun tk => ⟨.bl b, H, I.kept (t' := tk) fun _ _ z => z, rfl, q⟩
theorem kitC {K : PySem.W.Frag} {t : Value} {C : Addr} (h2 : PySem.W.isClsIn K C = true) (h3 : PySem.W.typeIn K (.ref C) = some (.type "type")) (h4 : PySem.W.subIn K t (.ref C) = some true) : PySem.W.kitOne K t (.ref C) = some true := by
  unfold PySem.W.kitOne
  split
  · rfl
  · have e : ((PySem.W.clsIn K C).isSome && PySem.W.typeIn K (.ref C) == some (.type "type")) = true := by
      have h2 : (PySem.W.clsIn K C).isSome = true := h2
      rw [h2, h3] <;> rfl
    unfold PySem.W.kitCls
    dsimp only
    rw [if_pos e]
    exact h4
theorem kitT {K : PySem.W.Frag} {t : Value} {T : String} (h1 : PySem.W.kitMeta T = true) (h4 : PySem.W.subIn K t (.type T) = some true) : PySem.W.kitOne K t (.type T) = some true := by
  unfold PySem.W.kitOne
  split
  · rfl
  · unfold PySem.W.kitCls
    dsimp only
    rw [if_pos h1]
    exact h4
/-- isinstance(e, c) where e is the caught error, of the class cl: its answer is known -/
def mIs (cl : Str) (b : Bool) (x : Ex) : ME := fun _ st => if x.cls = cl then some (.bl b, st) else none
def bR (C : Cy) (i : Nat) (a : Addr) (cls : Value) (d : Option Addr) (x : Ex) (m : MB) : TT := fun σ H Q => ∃ H0 as en st b st', EnR C H0 as en σ ∧ WR C H0 as st H ∧ σ[i]? = some (some (.ref a)) ∧ ExR C H0 as x cls d ∧ m en st = some (b, st') ∧ KB C H0 as st' b Q
section
variable {C : Cy} {i : Nat} {a : Addr} {cls : Value} {d : Option Addr} {x : Ex} {σ : L2.St} {H : Hp} {mc md : MB} {ma : ME} {R : Bool → Hp → Prop} {N : Ends}
theorem br_not : bR C i a cls d x (mNot mc) σ H R → tNot (bR C i a cls d x mc) σ H R := by
  rintro ⟨H0, as, en, st, b, st', e, w, hs, hx, hm, k⟩
  obtain ⟨⟨b1, s1⟩, ha, hm⟩ := Option.bind_eq_some_iff.mp hm
  cases hm
  exact ⟨H0, as, en, st, b1, s1, e, w, hs, hx, ha, fun H1 as1 H1' l1 w1 => k H1 as1 H1' l1 w1⟩
theorem br_or : bR C i a cls d x (mOr mc md) σ H R → tOr (bR C i a cls d x mc) (bR C i a cls d x md) σ H R := by
  rintro ⟨H0, as, en, st, b, st', e, w, hs, hx, hm, k⟩
  obtain ⟨⟨b1, s1⟩, ha, hm⟩ := Option.bind_eq_some_iff.mp hm
  refine ⟨H0, as, en, st, b1, s1, e, w, hs, hx, ha, fun H1 as1 H1' l1 w1 => ?_⟩
  dsimp only at hm ⊢
  split
  · rename_i h
    rw [if_pos h] at hm
    cases hm
    exact k H1 as1 H1' l1 w1
  · rename_i h
    rw [if_neg h] at hm
    exact ⟨H1, as1, en, s1, b, st', e.mono l1, w1, hs, hx.mono l1, hm, k.mono l1⟩
theorem br_and : bR C i a cls d x (mAnd mc md) σ H R → tAnd (bR C i a cls d x mc) (bR C i a cls d x md) σ H R := by
  rintro ⟨H0, as, en, st, b, st', e, w, hs, hx, hm, k⟩
  obtain ⟨⟨b1, s1⟩, ha, hm⟩ := Option.bind_eq_some_iff.mp hm
  refine ⟨H0, as, en, st, b1, s1, e, w, hs, hx, ha, fun H1 as1 H1' l1 w1 => ?_⟩
  dsimp only at hm ⊢
  split
  · rename_i h
    rw [if_pos h] at hm
    exact ⟨H1, as1, en, s1, b, st', e.mono l1, w1, hs, hx.mono l1, hm, k.mono l1⟩
  · rename_i h
    rw [if_neg h] at hm
    cases hm
    exact k H1 as1 H1' l1 w1
theorem br_pure : bR C i a cls d x mc σ H R → bM C mc σ H R := by
  rintro ⟨H0, as, en, st, b, st', e, w, hs, hx, hm, k⟩
  exact ⟨H0, as, en, st, b, st', e, w, hm, k⟩
theorem br_tru : bR C i a cls d x (mT ma) σ H R → eR C i a cls d x ma σ H (fun v H' => ∃ k, TruV C.K v H' k ∧ R k H') := by
  rintro ⟨H0, as, en, st, b, st', e, w, hs, hx, hm, k⟩
  obtain ⟨⟨da, s1⟩, ha, hm⟩ := Option.bind_eq_some_iff.mp hm
  obtain ⟨b', hb, e'⟩ := Option.map_eq_some_iff.mp hm
  cases e'
  exact ⟨H0, as, en, st, da, s1, e, w, hs, hx, ha, fun x H1 as1 H1' l1 w1 r1 => ⟨b, truD_ok w1 r1 hb, k H1 as1 H1' l1 w1⟩⟩
theorem er_if {m1 m2 : ME} {Q : VK} : eR C i a cls d x (mIf mc m1 m2) σ H Q → tIf (bR C i a cls d x mc) (eR C i a cls d x m1) (eR C i a cls d x m2) σ H Q := by
  rintro ⟨H0, as, en, st, o, st', e, w, hs, hx, hm, k⟩
  obtain ⟨⟨b1, s1⟩, ha, hm⟩ := Option.bind_eq_some_iff.mp hm
  refine ⟨H0, as, en, st, b1, s1, e, w, hs, hx, ha, fun H1 as1 H1' l1 w1 => ?_⟩
  dsimp only at hm ⊢
  split
  · rename_i h
    rw [if_pos h] at hm
    exact ⟨H1, as1, en, s1, o, st', e.mono l1, w1, hs, hx.mono l1, hm, k.mono l1⟩
  · rename_i h
    rw [if_neg h] at hm
    exact ⟨H1, as1, en, s1, o, st', e.mono l1, w1, hs, hx.mono l1, hm, k.mono l1⟩
/-- if c: .. and a return, behind it the rest -/
def mIfR (c : MB) (a b : MS) : MS := fun en st => (c en st).bind fun p => if p.1 = true then (a en p.2).bind fun q => match q.1 with
    | .nx _ => none
    | _ => some q
  else b en p.2
theorem sr_ifR {m1 m2 : MS} : sRx C i a cls d x (mIfR mc m1 m2) N σ H → tSeq (tIfS (bR C i a cls d x mc) (sRx C i a cls d x m1) tNext) (sRx C i a cls d x m2) N σ H := by
  rintro ⟨H0, as, en, st, o, st', e, w, hs, hx, hm, k⟩
  obtain ⟨⟨b1, s1⟩, ha, hm⟩ := Option.bind_eq_some_iff.mp hm
  refine ⟨H0, as, en, st, b1, s1, e, w, hs, hx, ha, fun H1 as1 H1' l1 w1 => ?_⟩
  dsimp only at hm ⊢
  split
  · rename_i h
    rw [if_pos h] at hm
    obtain ⟨⟨o1, s2⟩, h1, hm⟩ := Option.bind_eq_some_iff.mp hm
    refine ⟨H1, as1, en, s1, o1, s2, e.mono l1, w1, hs, hx.mono l1, h1, ?_⟩
    have k1 := KO.mono l1 k
    cases o1 with
    | nx en' => cases hm
    | rt d' => cases hm; exact k1
    | bk en' => cases hm; exact k1
    | ct en' => cases hm; exact k1
  · rename_i h
    rw [if_neg h] at hm
    exact ⟨H1, as1, en, s1, o, st', e.mono l1, w1, hs, hx.mono l1, hm, k.mono l1⟩
end
section
variable {X : Cx} {i : Nat} {a : Addr} {oe : Obj} {pn : List (Addr × Obj)} {cls : Value} {d : Option Addr} {x : Ex} {e f g : Expr} {es : List Expr} {pos : Pos} {mc md : MB}
theorem u_isx {cl nm cn : Str} {b : Bool} {D : Addr} {cv : V} {cvv : Value} {p p1 p2 : Pos} (T : ExcC X.K D) (hns : PySem.W.nsIn X.K mainGlobals cl = some (some (.ref D))) (hz : Zc cls d oe) (hf : ∃ vs, oe.data = .fields vs)
    (hg : Gl X "isinstance") (hm : X.mg "isinstance" = none) (he : PE (Su X a oe pn) (.Name nm p1) (tVar i)) (hc : PE (Su X a oe pn) (.Name cn p2) (tC cv)) (hcv : ∀ u, RelV cv u → u = cvv) (hk : PySem.W.kitOne X.K (.ref D) cvv = some b) :
    PE (Su X a oe pn) (.Call (.Name "isinstance" p) [.Name nm p1, .Name cn p2] [] pos) (eR (cyOf X) i a cls d x (mIs cl b x)) := by
  refine ⟨fun pins s σ H Q I h => ?_⟩
  obtain ⟨H0, as, en, st, r, st', e', w, hs, ⟨⟨ca, ec, hc2⟩, dd, gs, ed, hd, hr⟩, hm2, k⟩ := h
  unfold mIs at hm2
  split at hm2
  · rename_i hx
    cases hm2
    have hc2 : PySem.W.nsIn X.K mainGlobals x.cls = some (some (.ref ca)) := hc2
    rw [hx, hns] at hc2
    cases hc2
    subst ec ed
    exact (pe_callB (X := Su X a oe pn) (id := "isinstance") (call_isX (X := X) (pn := pn) T hz hf) hg hm (by decide +kernel) (pa_cons he (pa_cons hc pa_nil))).run pins s σ H Q I ⟨.ref a, hs, cv, cvv, b, gs, rfl, hcv, w.ex _ _ hd, hk, k.val w rfl⟩
  · cases hm2
theorem uy_t {ma : ME} (ha : PE X e (eR (cyOf X) i a cls d x ma)) (he : ∀ whole, isTrue e X.env whole = (do let v ← whole; standAt e.pos; holding [v] (truthy v)) := by intro _; rfl) : PT X e (bR (cyOf X) i a cls d x (mT ma)) := PT.imp (pt_truth ha he) fun _ _ _ h => br_tru h
theorem uy_not (ha : PT X e (bR (cyOf X) i a cls d x mc)) : PT X (.UnaryOp .Not e pos) (bR (cyOf X) i a cls d x (mNot mc)) := PT.imp (pt_not ha) fun _ _ _ => br_not
theorem uy_and1 (ha : PT X e (bR (cyOf X) i a cls d x mc)) : PW X (.BoolOp .And [e] pos) (bR (cyOf X) i a cls d x mc) := pw_and1 ha
theorem uy_or1 (ha : PT X e (bR (cyOf X) i a cls d x mc)) : PW X (.BoolOp .Or [e] pos) (bR (cyOf X) i a cls d x mc) := pw_or1 ha
theorem uy_and (ha : PT X e (bR (cyOf X) i a cls d x mc)) (hb : PW X (.BoolOp .And (f :: es) pos) (bR (cyOf X) i a cls d x md)) : PW X (.BoolOp .And (e :: f :: es) pos) (bR (cyOf X) i a cls d x (mAnd mc md)) := PW.imp (pw_and ha hb) fun _ _ _ => br_and
theorem uy_or (ha : PT X e (bR (cyOf X) i a cls d x mc)) (hb : PW X (.BoolOp .Or (f :: es) pos) (bR (cyOf X) i a cls d x md)) : PW X (.BoolOp .Or (e :: f :: es) pos) (bR (cyOf X) i a cls d x (mOr mc md)) := PW.imp (pw_or ha hb) fun _ _ _ => br_or
theorem uy_pure (h : PT X e (bM (cyOf X) mc)) : PT X e (bR (cyOf X) i a cls d x mc) := PT.imp h fun _ _ _ => br_pure
theorem u_if {m1 m2 : ME} (hc : PT X e (bR (cyOf X) i a cls d x mc)) (h1 : PE X f (eR (cyOf X) i a cls d x m1)) (h2 : PE X g (eR (cyOf X) i a cls d x m2)) : PE X (.IfExp e f g pos) (eR (cyOf X) i a cls d x (mIf mc m1 m2)) := PE.imp (pe_ifExp hc h1 h2) fun _ _ _ => er_if
theorem us_one {st : Stmt} {m : MS} (h : PS X st (sRx (cyOf X) i a cls d x m)) : PSs X [st] (sRx (cyOf X) i a cls d x m) := pss_one h
theorem us_ifR {body rest : List Stmt} {m1 m2 : MS} (hc : PT X e (bR (cyOf X) i a cls d x mc)) (h1 : PSs X body (sRx (cyOf X) i a cls d x m1)) (h2 : PSs X rest (sRx (cyOf X) i a cls d x m2)) : PSs X (.If e body [] pos :: rest) (sRx (cyOf X) i a cls d x (mIfR mc m1 m2)) :=
  PSs.imp (pss_cons (ps_if hc h1 pss_nil) h2) fun _ _ _ => sr_ifR
/-- a clause with a name: its statements -/
theorem u_all {sts : List Stmt} {mk : Ex → MS} (h : ∀ x, PSs (Su X a oe pn) sts (sRx (cyOf X) i a cls d x (mk x))) : PSs (Su X a oe pn) sts (sR (cyOf X) (some i) mk a cls d) := ⟨fun pins s σ H D I hw => by
  obtain ⟨x, H0, as, en, st0, o, st', e, w, hs, hx, hm, k⟩ := hw
  exact (h x).run pins s σ H D I ⟨H0, as, en, st0, o, st', e, w, hs i rfl, hx, hm, k⟩⟩
end
end My


namespace L2
open PySem PySem.Spec PyProof.Rows
/-! ### enumerate(text) -/
def IteS (x : Str) : It := ⟨fun i _ => i < x.cps.size, fun i H v H' => ∃ T c, v = .ref T ∧ H T = none ∧ x.cps[i]? = some c ∧ H' = upd H T (.tup [.int (i : Nat), .str ⟨#[c]⟩]), fun i _ => x.cps.size ≤ i⟩
theorem drawsS {P : Program} {w : World} {A : Around} (calm : A.handled = none) (it : Addr) (x : Str) (t : Tok) : Draws P w A it [it] x.cps.size (fun i v => ∃ c u, x.cps[i]? = some c ∧ v = .str ⟨#[c]⟩ u) (fun i h => h.IsStrIter it (strIterType x) x t i) := by
  unfold strIterType
  split
  · exact Draws.strAscii calm it x t
  · exact Draws.strWide calm it x t
theorem my_enumS_end {P : Program} {w : World} {A : Around} {E : Value → Shared → Prop} {s : Shared} {e it : Addr} {i : Nat} {x : Str} {t : Tok} {old : Value} {Q : Option Value → Shared → Prop} (calm : A.handled = none)
    (he : IsEnum s.heap e it i old) (hit : s.heap.IsStrIter it (strIterType x) x t i) (hx : x.cps.size ≤ i) (fin : ∀ h', Heap.ExtBut it s.heap h' → Q none { s with heap := h' }) : wpAny (model P w) A (pyNext (.ref e)) Q E s := by
  have ty : s.TypeIs (.ref e) "enumerate" := ⟨_, he, rfl⟩
  have hn : x.cps[i]? = none := Array.getElem?_eq_none hx
  have last : ∀ {E' : Value → Shared → Prop}, (∀ h' b, Heap.ExtBut it s.heap h' → (∃ o, h'.get? b = some o ∧ o.cls = .type "StopIteration") → E' (.ref b) { s with heap := h' }) → ∀ Q', wpAny (model P w) A.in1 (Builtin.SmallTypes.nextOf (.ref it)) Q' E' s := by
    intro E' hE Q'
    unfold strIterType at hit
    split at hit
    · exact wpAny_nextOf_ascii_end calm hit hn hE
    · exact wpAny_nextOf_wide_end calm hit hn hE
  unfold pyNext
  refine wpAny_bind (wpAny_attempt (wpAny_callSpecial?_slot (name := Str.ofString "__next__") ty F.slot_enumerate_next (wpAny_call_entry F.slot_enumerate_next ty F.entry_enumerate_next (?_ : _) (F.args_enumerate_next_1 _))))
  refine (?_ : wpAny _ _ (field (.ref e) 2 >>= _) _ _ _)
  refine wpAny_bind (wpAny_field he rfl (x := .ref it) rfl (wpAny_bind (last (fun h' b eb ⟨o, ho, hc⟩ => ?_) _)))
  exact wpAny_bind (wpAny_isInstance (T := "StopIteration") (b := true) ⟨o, ho, hc⟩ isSubtype_stop (wpAny_pure (fin _ eb)))
theorem turn_enumS {P : Program} {w : World} {K : PySem.W.Frag} {elts : List Expr} {kk : Nat} {tpos : Pos} (x : Str) (t : Tok) (e it : Addr) :
    Turn P w K (.Tuple elts kk tpos) (IteS x) [e, it] e (fun i h => (∃ old, IsEnum h e it ((i : Nat) : Int) old) ∧ h.IsStrIter it (strIterType x) x t i ∧ e ≠ it) where
  mem := by simp
  obj := fun i h st b hb => by
    obtain ⟨⟨old, he⟩, ⟨o, ho, _, hd⟩, _⟩ := st
    rcases (by simpa using hb : b = e ∨ b = it) with z | z
    · subst z; exact ⟨_, he, fun v q => nomatch q⟩
    · subst z; exact ⟨o, ho, fun v q => by rw [hd] at q; cases q⟩
  keep := fun i h h' st k => let ⟨⟨old, he⟩, ⟨o, ho, r⟩, hne⟩ := st; ⟨⟨old, k e (by simp) _ he⟩, ⟨o, k it (by simp) o ho, r⟩, hne⟩
  item := by
    intro X hP hw hK hc i pins s σ H E I hf st hg
    subst hP hw hK
    obtain ⟨⟨old, he⟩, hit, hne⟩ := st
    have hel : e < s.heap.objs.size := Heap.lt_size he
    have hil : it < s.heap.objs.size := by obtain ⟨_, q, _⟩ := hit; exact Heap.lt_size q
    refine wpAny_pyNext_enum_itemD (drawsS (P := X.prog) (w := X.w) (A := X.A.in1) (I.ok.hd hc) it x t) he hit hg hne (by simp [hne]) fun u' h' tk hu' ho hst' hT hsz hk => ?_
    obtain ⟨c, tu, hcx, rfl⟩ := hu'
    refine ⟨_, rfl, wpAny_letOwnedTupleGo_enum (s := { s with heap := h', toks := tk + 1 }) ho fun h2 he2 sb => ?_⟩
    have at2 : h2.get? s.heap.objs.size = some { cls := .type "tuple", data := .seq #[.int i tk, .str ⟨#[c]⟩ tu] } := (sb.2 _ (Nat.ne_of_gt hel)).trans hT
    have new : ObjOk X.prog X.w (upd H s.heap.objs.size (.tup [.int (i : Nat), .str ⟨#[c]⟩])) h2 s.heap.objs.size (.tup [.int (i : Nat), .str ⟨#[c]⟩]) :=
      ⟨by show 2 ≤ sizeLine; decide, [.int i tk, .str ⟨#[c]⟩ tu], .cons ⟨_, rfl⟩ (.cons ⟨_, rfl⟩ .nil), ⟨_, at2, rfl, _, rfl⟩⟩
    have I1 : Inv X pins σ (upd H s.heap.objs.size (.tup [.int (i : Nat), .str ⟨#[c]⟩])) { s with heap := h2, toks := tk + 1 } :=
      I.turnedNew (ch := [e, it]) (fun b ob hb q => (sb.2 b (fun z => hb (by simp [z]))).trans (hk b ob (fun z => hb (by simp [z])) (fun z => hb (by simp [z])) q)) hf (Nat.le_refl _) new
    refine ⟨.ref s.heap.objs.size, _, I1, rfl, ⟨_, c, rfl, I.hok.fresh (Nat.le_refl _), hcx, rfl⟩, ⟨⟨.str ⟨#[c]⟩ tu, ?_⟩, let ⟨o, ho, r⟩ := hst'; ⟨o, (sb.2 it (Ne.symm hne)).trans ho, r⟩, hne⟩, fun b hb => ?_⟩
    · have e1 : ((i + 1 : Nat) : Int) = (i : Int) + 1 := by omega
      rw [e1]; exact he2
    · have lt : b < s.heap.objs.size := by
        rcases (by simpa using hb : b = e ∨ b = it) with z | z
        · subst z; exact hel
        · subst z; exact hil
      rw [upd_ne (Nat.ne_of_lt lt)]
      exact (hf b hb).1
  done := by
    intro X hP hw hK hc i pins s σ H E I hf st hg
    subst hP hw hK
    obtain ⟨⟨old, he⟩, hit, hne⟩ := st
    obtain ⟨f0, f1, f2, f3, f4, f5⟩ := hf it (by simp)
    exact my_enumS_end (I.ok.hd hc) he hit hg fun h' eb => ⟨rfl, I.turned (t' := s.toks) (fun b o hb q => eb b o hb q) f0 f1 f3 f4 f5⟩
  self := fun A i s Q E st h => let ⟨⟨_, he⟩, _⟩ := st; wpAny_pyIter_enum he h
def iEnumS (ta : TA) : TI := fun σ H R => ta σ H fun vs H1 => ∃ x, vs = [.str x] ∧ R (IteS x) H1
theorem pi_enumS {X : Cx} {e : Expr} {ta : TA} {p pos tpos : Pos} {elts : List Expr} {kk : Nat} (hg : Gl X "enumerate") (hm : X.mg "enumerate" = none) (ha : PA X [e] ta) (hs : starEach [e] X.env = [(false, eval e X.env)] := by rfl) :
    PI X (.Tuple elts kk tpos) (.Call (.Name "enumerate" p) [e] [] pos) (iEnumS ta) := by
  refine ⟨fun pins s σ H R I h => Call_ (ld_blt I hg hm boot_enumerate (PyProof.Rows.callWith_type1 (thn (ha.run pos pins s σ H _ I h) fun us s1 ⟨vs, H1, I1, r1, x, ex, q⟩ => ?_) hs rfl))⟩
  subst ex
  obtain ⟨u, rfl, rv⟩ := vals1 r1
  obtain ⟨t, rfl⟩ := rv
  refine call_enumerate_str fun h' he hit hsz hk => wpAny_pyIter_enum he ?_
  have I2 : Inv X pins σ H1 { s1 with heap := h' } := I1.kept (t' := s1.toks) hk
  refine ⟨s1.heap.objs.size + 1, [s1.heap.objs.size + 1, s1.heap.objs.size], _, _, H1, rfl, I2, turn_enumS x t (s1.heap.objs.size + 1) s1.heap.objs.size, ⟨⟨.none, he⟩, hit, Nat.succ_ne_self _⟩, fun b hb => ?_, q⟩
  have lb : s1.heap.objs.size ≤ b := by
    rcases (by simpa using hb : b = s1.heap.objs.size + 1 ∨ b = s1.heap.objs.size) with z | z
    · rw [z]; exact Nat.le_add_right _ _
    · rw [z]; exact Nat.le_refl _
  exact I1.fpOk lb (I1.hok.fresh lb)
end L2
namespace My
open PySem PySem.Spec PyProof.Rows L2
def miEnumS (m : MA) : MI := fun en st => (m en st).bind fun p => match p.1 with
  | [.str x] => some (⟨enumD (signs x), none⟩, p.2)
  | _ => none
section
variable {C : Cy} {X : Cx}
theorem itOk_enumS {x : Str} {H0 : Hb} {as : List Addr} : ItOk C (IteS x) ⟨enumD (signs x), none⟩ H0 as := by
  intro H1 as1 st H i l w _
  refine ⟨fun d hd => ?_, fun hi => ?_⟩
  · have hd : (enumD (signs x))[i]? = some d := hd
    unfold enumD signs at hd
    rw [List.getElem?_map, List.getElem?_zipIdx, Option.map_map, List.getElem?_map] at hd
    obtain ⟨y, hy, rfl⟩ := Option.map_eq_some_iff.mp hd
    obtain ⟨c, hc, rfl⟩ := Option.map_eq_some_iff.mp hy
    have hc : x.cps[i]? = some c := by rw [← Array.getElem?_toList]; exact hc
    refine ⟨(Array.getElem?_eq_some_iff.mp hc).1, fun z H' t => ?_⟩
    obtain ⟨T, c', rfl, hT, h1, rfl⟩ := t
    rw [hc] at h1
    cases h1
    refine newT_ex w (reps_two ?_ (?_ : Rep C H1 as1 (sgn c) _)) hT
    · show V.int _ = V.int _
      simp
    · rfl
  · have hi : (enumD (signs x)).length ≤ i := hi
    show x.cps.size ≤ i
    simpa [enumD, signs] using hi
variable {σ : L2.St} {H : Hp} {R : It → Hp → Prop} {m : MA}
theorem im_enumS : iM C (miEnumS m) σ H R → iEnumS (aM C m) σ H R := by
  rintro ⟨H0, as, en, st, s, st', e, w, hm, k⟩
  unfold miEnumS at hm
  obtain ⟨⟨d, s1⟩, ha, hm⟩ := Option.bind_eq_some_iff.mp hm
  dsimp only at hm
  split at hm
  · cases hm
    refine ⟨H0, as, en, st, _, _, e, w, ha, fun vs H1 as1 H1' l1 w1 r1 => ?_⟩
    obtain ⟨v, rfl, rv⟩ := reps1 r1
    exact ⟨_, by rw [rep_str rv], k _ H1 as1 H1' l1 w1 fun g => itOk_enumS⟩
  · cases hm
theorem i_enumS {e : Expr} {p pos tpos : Pos} {elts : List Expr} {kk : Nat} (hg : Gl X "enumerate") (hm : X.mg "enumerate" = none) (ha : PA X [e] (aM (cyOf X) m)) (hs : starEach [e] X.env = [(false, eval e X.env)] := by rfl) : PI X (.Tuple elts kk tpos) (.Call (.Name "enumerate" p) [e] [] pos) (iM (cyOf X) (miEnumS m)) := PI.imp (pi_enumS hg hm ha hs) fun _ _ _ => im_enumS
end
end My


namespace My
open PySem PySem.Spec PySem.Calls PyProof.Rows L2
/-! ### x in t, t a tuple, data of any depth -/
def fInU (neg : Bool) (a b : D) (st : Sto) : Option (D × Sto) := match b with
  | .tup es => (toPys es).bind fun qs => (toPy a).bind fun p => if SeqAt.shaped p = true ∧ SeqAt.shaped (.tuple qs) = true then some (.bl (if neg then !qs.any fun z => PyData.eqv z p else qs.any fun z => PyData.eqv z p), st) else none
  | _ => none
def rInU (K : PySem.W.Frag) (neg : Bool) : R2 := fun x y H Q => ∃ d ds, Dp K H x d ∧ Dp K H y (.tuple ds) ∧ SeqAt.shaped d = true ∧ SeqAt.shaped (.tuple ds) = true ∧ Q (.bl (if neg then !ds.any fun z => PyData.eqv z d else ds.any fun z => PyData.eqv z d)) H
theorem ok_inU {C : Cy} {neg : Bool} : Ok2 C (rInU C.K neg) (fInU neg) := by
  intro H0 as st H dx dy x y d st' Q w rx ry hf k
  unfold fInU at hf
  split at hf
  · rename_i es
    obtain ⟨qs, hq, hf⟩ := Option.bind_eq_some_iff.mp hf
    obtain ⟨p, hp, hf⟩ := Option.bind_eq_some_iff.mp hf
    split at hf
    · rename_i hc
      cases hf
      obtain ⟨a, us, rfl, hs, hr⟩ := ry
      exact ⟨p, qs, toPy_dp w.ex hp rx, .tup (same_seqT w.ex hs) (toPys_dp w.ex hq hr), hc.1, hc.2, k.val w rfl⟩
    · cases hf
  · cases hf
section
variable {X : Cx}
theorem op_inU {k : Nat} (hr : Room k X.A) : OpR X (compareOp .In) (rInU X.K false) := by
  intro pins s σ H x y v u Q I rx ry h
  obtain ⟨d, ds, hd, he, sd, se, q⟩ := h
  obtain ⟨as, r1⟩ := Dp.reads I d x v hd rx
  obtain ⟨bs, r2⟩ := Dp.reads I (.tuple ds) y u he ry
  have un : X.A.units + 65 < cLine := by have := hr.un; omega
  exact SeqAt.in_tuple_reads r2 r1 (SeqAt.canLay_of_shaped se) (SeqAt.canLay_of_shaped sd) (room_in_shaped sd un) ⟨.bl _, H, I, rfl, q⟩
theorem op_niU {k : Nat} (hr : Room k X.A) : OpR X (compareOp .NotIn) (rInU X.K true) := by
  intro pins s σ H x y v u Q I rx ry h
  obtain ⟨d, ds, hd, he, sd, se, q⟩ := h
  obtain ⟨as, r1⟩ := Dp.reads I d x v hd rx
  obtain ⟨bs, r2⟩ := Dp.reads I (.tuple ds) y u he ry
  have un : X.A.units + 65 < cLine := by have := hr.un; omega
  exact SeqAt.notIn_tuple_reads r2 r1 (SeqAt.canLay_of_shaped se) (SeqAt.canLay_of_shaped sd) (room_in_shaped sd un) ⟨.bl _, H, I, rfl, q⟩
theorem k_inU {k : Nat} (hr : Room k X.A) : OpR X (compareOp .In) (rInU X.K false) ∧ Ok2 (cyOf X) (rInU X.K false) (fInU false) := ⟨op_inU hr, ok_inU⟩
theorem k_niU {k : Nat} (hr : Room k X.A) : OpR X (compareOp .NotIn) (rInU X.K true) ∧ Ok2 (cyOf X) (rInU X.K true) (fInU true) := ⟨op_niU hr, ok_inU⟩
end
end My


set_option maxHeartbeats 1000000
/-! Round sets: plain mathematics. -/
namespace My
structure Rs where
  few : List Int
  first : Int
  turn : Int
  rests : List Int
structure Rs.Wf (a : Rs) : Prop where
  few : a.few.Pairwise (· < ·)
  fewIn : ∀ m ∈ a.few, 0 ≤ m ∧ m < a.first
  first : 0 ≤ a.first
  turn : 0 < a.turn
  rests : a.rests.Pairwise (· < ·)
  restsIn : ∀ r ∈ a.rests, 0 ≤ r ∧ r < a.turn
def Rs.d (a : Rs) : D := .tup [.tup (a.few.map .int), .int a.first, .int a.turn, .tup (a.rests.map .int)]
def Rs.has (a : Rs) (n : Int) : Bool := if n < a.first then decide (n ∈ a.few) else decide (n % a.turn ∈ a.rests)
theorem look_d (a : Rs) (st : Sto) : look a.d st = some [.tup (a.few.map .int), .int a.first, .int a.turn, .tup (a.rests.map .int)] := rfl
theorem Rs.has_lo {a : Rs} {n : Int} (h : n < a.first) : a.has n = decide (n ∈ a.few) := by unfold Rs.has; rw [if_pos h]
theorem Rs.has_hi {a : Rs} {n : Int} (h : a.first ≤ n) : a.has n = decide (n % a.turn ∈ a.rests) := by unfold Rs.has; rw [if_neg (by omega)]
/-- how many are so in [s, s + n) -/
def cntP (p : Int → Bool) (s : Int) : Nat → Nat
  | 0 => 0
  | n + 1 => cntP p s n + (if p (s + n) then 1 else 0)
theorem cntP_add (p : Int → Bool) (s : Int) (n : Nat) : ∀ m : Nat, cntP p s (n + m) = cntP p s n + cntP p (s + n) m
  | 0 => rfl
  | m + 1 => by
    show cntP p s (n + m) + (if p (s + ((n + m : Nat) : Int)) then 1 else 0) = cntP p s n + (cntP p (s + n) m + (if p (s + n + (m : Int)) then 1 else 0))
    rw [cntP_add p s n m, show s + ((n + m : Nat) : Int) = s + n + m by omega]
    omega
theorem cntP_congr {p q : Int → Bool} {s : Int} : ∀ {n : Nat}, (∀ x, s ≤ x → x < s + n → p x = q x) → cntP p s n = cntP q s n
  | 0, _ => rfl
  | n + 1, h => by
    show cntP p s n + _ = cntP q s n + _
    rw [cntP_congr (n := n) fun x h1 h2 => h x h1 (by omega), h (s + n) (by omega) (by omega)]
theorem cntP_shift (p : Int → Bool) (s d : Int) : ∀ n : Nat, cntP (fun x => p (x + d)) s n = cntP p (s + d) n
  | 0 => rfl
  | n + 1 => by
    show cntP _ s n + (if p (s + (n : Int) + d) then 1 else 0) = cntP p (s + d) n + _
    rw [cntP_shift p s d n, show s + (n : Int) + d = s + d + n by omega]
theorem cntP_le (p : Int → Bool) (s : Int) : ∀ n : Nat, cntP p s n ≤ n
  | 0 => Nat.le_refl _
  | n + 1 => by
    show cntP p s n + _ ≤ n + 1
    have := cntP_le p s n
    split <;> omega
theorem cntP_rng (p : Int → Bool) (s : Int) : ∀ n : Nat, ((rngI s n).filter p).length = cntP p s n
  | 0 => rfl
  | n + 1 => by
    unfold rngI
    rw [List.range_succ, List.map_append, List.filter_append, List.length_append]
    have ih := cntP_rng p s n
    unfold rngI at ih
    rw [ih]
    show _ = cntP p s n + _
    rw [List.map_cons, List.map_nil]
    split
    · rename_i h
      rw [List.filter_cons_of_pos h]
      rfl
    · rename_i h
      rw [List.filter_cons_of_neg h]
      rfl
/-- one window of a turn is as good as another -/
theorem cntP_window {p : Int → Bool} {t : Nat} (hp : ∀ x, p (x + t) = p x) (s : Int) : ∀ n : Nat, cntP p (s + n) t = cntP p s t
  | 0 => by simp
  | n + 1 => by
    rw [← cntP_window hp s n]
    have a := cntP_add p (s + n) 1 t
    have b := cntP_add p (s + n) t 1
    rw [Nat.add_comm 1 t] at a
    have c : cntP p (s + n) 1 = if p (s + n) then 1 else 0 := by
      show 0 + _ = _
      simp
    have d : cntP p (s + n + t) 1 = if p (s + n) then 1 else 0 := by
      show 0 + (if p (s + n + t + (0 : Nat)) then 1 else 0) = _
      rw [show s + (n : Int) + t + ((0 : Nat) : Int) = s + n + t by omega, hp]
      simp
    rw [show s + ((n + 1 : Nat) : Int) = s + n + (1 : Nat) by omega]
    omega
theorem cntP_windowZ {p : Int → Bool} {t : Nat} (hp : ∀ x, p (x + t) = p x) (s u : Int) : cntP p u t = cntP p s t := by
  rcases Int.le_total s u with h | h
  · have e : u = s + ((u - s).toNat : Int) := by omega
    rw [e]
    exact cntP_window hp s _
  · have e : s = u + ((s - u).toNat : Int) := by omega
    rw [e]
    exact (cntP_window hp u _).symm
theorem cntP_turns {p : Int → Bool} {t : Nat} (hp : ∀ x, p (x + t) = p x) (s : Int) : ∀ q : Nat, cntP p s (q * t) = q * cntP p s t
  | 0 => by simp [cntP]
  | q + 1 => by
    rw [Nat.succ_mul, cntP_add, cntP_turns hp s q, cntP_windowZ hp s (s + ((q * t : Nat) : Int)), Nat.succ_mul]
/-- members of an ascending list, counted -/
theorem cntP_mem : ∀ {l : List Int} {s : Int} {n : Nat}, l.Nodup → (∀ x ∈ l, s ≤ x ∧ x < s + n) → cntP (fun x => decide (x ∈ l)) s n = l.length
  | [], s, n, _, _ => by
    have : ∀ n, cntP (fun x => decide (x ∈ ([] : List Int))) s n = 0 := by
      intro n
      induction n with
      | zero => rfl
      | succ n ih =>
        show cntP _ s n + _ = 0
        rw [ih]
        simp
    exact this n
  | y :: l, s, n, hn, hx => by
    have hy := hx y (by simp)
    have ih := cntP_mem (l := l) (s := s) (n := n) hn.of_cons fun x h => hx x (List.mem_cons_of_mem _ h)
    have ny : y ∉ l := (List.nodup_cons.mp hn).1
    have key : ∀ n : Nat, cntP (fun x => decide (x ∈ y :: l)) s n = cntP (fun x => decide (x ∈ l)) s n + (if s ≤ y ∧ y < s + n then 1 else 0) := by
      intro n
      induction n with
      | zero =>
        show 0 = 0 + _
        rw [if_neg (by omega)]
      | succ n ih =>
        show cntP _ s n + _ = (cntP _ s n + _) + _
        rw [ih]
        by_cases e : s + (n : Int) = y
        · rw [if_neg (by omega), if_pos (show s ≤ y ∧ y < s + ((n + 1 : Nat) : Int) by omega), e]
          simp [ny]
        · have e2 : (s + (n : Int) ∈ y :: l) ↔ (s + (n : Int) ∈ l) := by
            rw [List.mem_cons]
            exact ⟨fun h => h.resolve_left e, .inr⟩
          by_cases h1 : s ≤ y ∧ y < s + (n : Int)
          · rw [if_pos h1, if_pos (show s ≤ y ∧ y < s + ((n + 1 : Nat) : Int) by omega)]
            simp only [decide_eq_decide.mpr e2]
            omega
          · rw [if_neg h1, if_neg (show ¬ (s ≤ y ∧ y < s + ((n + 1 : Nat) : Int)) by omega)]
            simp only [decide_eq_decide.mpr e2]
            omega
    rw [key n, ih, if_pos hy, List.length_cons]
theorem nodup_of_lt {l : List Int} (h : l.Pairwise (· < ·)) : l.Nodup := h.imp fun h => Int.ne_of_lt h
section
variable {a : Rs}
def Rs.cnt (a : Rs) (n : Int) : Nat := cntP a.has 0 n.toNat
theorem Rs.Wf.per (w : a.Wf) (x : Int) : decide ((x + (a.turn.toNat : Int)) % a.turn ∈ a.rests) = decide (x % a.turn ∈ a.rests) := by
  have ht := w.turn
  rw [show (a.turn.toNat : Int) = a.turn by omega, Int.add_emod_right]
theorem Rs.Wf.win (w : a.Wf) (s : Int) : cntP (fun x => decide (x % a.turn ∈ a.rests)) s a.turn.toNat = a.rests.length := by
  have ht := w.turn
  rw [cntP_windowZ (p := fun x => decide (x % a.turn ∈ a.rests)) w.per 0 s]
  rw [cntP_congr (q := fun x => decide (x ∈ a.rests)) fun x h1 h2 => by rw [Int.emod_eq_of_lt h1 (by omega)]]
  exact cntP_mem (nodup_of_lt w.rests) fun x hx => by have := w.restsIn x hx; omega
theorem Rs.Wf.cnt_lo (w : a.Wf) {n : Int} (h0 : 0 ≤ n) (h : n ≤ a.first) : a.cnt n = (a.few.filter fun m => decide (m < n)).length := by
  unfold Rs.cnt
  rw [cntP_congr (q := fun x => decide (x ∈ a.few.filter fun m => decide (m < n))) fun x h1 h2 => by
    rw [Rs.has_lo (by omega)]
    exact decide_eq_decide.mpr ⟨fun hx => List.mem_filter.mpr ⟨hx, decide_eq_true (by omega)⟩, fun hx => (List.mem_filter.mp hx).1⟩]
  refine cntP_mem ((nodup_of_lt w.few).filter _) fun x hx => ?_
  obtain ⟨h1, h2⟩ := List.mem_filter.mp hx
  have := w.fewIn x h1
  have := of_decide_eq_true h2
  omega
theorem Rs.Wf.cnt_first (w : a.Wf) : a.cnt a.first = a.few.length := by
  rw [w.cnt_lo w.first (Int.le_refl _), List.filter_eq_self.mpr fun m hm => decide_eq_true (w.fewIn m hm).2]
theorem Rs.Wf.cnt_hi (w : a.Wf) {n : Int} (h : a.first ≤ n) : a.cnt n = a.few.length + cntP (fun x => decide (x % a.turn ∈ a.rests)) a.first (n - a.first).toNat := by
  have h0 := w.first
  rw [← w.cnt_first]
  unfold Rs.cnt
  rw [show n.toNat = a.first.toNat + (n - a.first).toNat by omega, cntP_add, show (0 : Int) + (a.first.toNat : Int) = a.first by omega]
  congr 1
  exact cntP_congr fun x h1 _ => Rs.has_hi h1
/-- whole turns, then what is left -/
theorem Rs.Wf.cnt_turns (w : a.Wf) (q t : Nat) : a.cnt (a.first + q * a.turn + t) = a.few.length + q * a.rests.length + cntP (fun x => decide (x % a.turn ∈ a.rests)) (a.first + q * a.turn) t := by
  have ht := w.turn
  have hq : (0 : Int) ≤ q * a.turn := Int.mul_nonneg (by omega) (by omega)
  have e : ((q * a.turn.toNat : Nat) : Int) = q * a.turn := by
    rw [Int.natCast_mul, show (a.turn.toNat : Int) = a.turn by omega]
  rw [w.cnt_hi (by omega), show (a.first + q * a.turn + t - a.first).toNat = q * a.turn.toNat + t by omega, cntP_add, cntP_turns w.per, w.win, e]
  omega
theorem Rs.cnt_step (a : Rs) {n : Int} (h : 0 ≤ n) : a.cnt (n + 1) = a.cnt n + if a.has n then 1 else 0 := by
  unfold Rs.cnt
  rw [show (n + 1).toNat = n.toNat + 1 by omega]
  show cntP _ 0 n.toNat + _ = _
  rw [show (0 : Int) + (n.toNat : Int) = n by omega]
theorem Rs.cnt_mono (a : Rs) {m n : Int} (h0 : 0 ≤ m) (h : m ≤ n) : a.cnt m ≤ a.cnt n := by
  unfold Rs.cnt
  rw [show n.toNat = m.toNat + (n - m).toNat by omega, cntP_add]
  omega
theorem Rs.cnt_none (a : Rs) {m n : Int} (h0 : 0 ≤ m) (h : m ≤ n) (hn : ∀ k, m ≤ k → k < n → a.has k = false) : a.cnt n = a.cnt m := by
  unfold Rs.cnt
  rw [show n.toNat = m.toNat + (n - m).toNat by omega, cntP_add]
  have : ∀ j : Nat, (j : Int) ≤ n - m → cntP a.has (0 + (m.toNat : Int)) j = 0 := by
    intro j
    induction j with
    | zero => intro _; rfl
    | succ j ih =>
      intro hj
      show cntP _ _ j + _ = 0
      rw [ih (by omega), hn _ (by omega) (by omega)]
      rfl
  rw [this _ (by omega)]
  rfl
/-- a member is told by its place -/
theorem Rs.place_inj (a : Rs) {m n : Int} (h0 : 0 ≤ m) (h1 : 0 ≤ n) (hm : a.has m = true) (hn : a.has n = true) (h : a.cnt m = a.cnt n) : m = n := by
  rcases Int.lt_trichotomy m n with l | l | l
  · have s := a.cnt_step h0
    rw [hm] at s
    have := a.cnt_mono (m := m + 1) (n := n) (by omega) (by omega)
    simp at s
    omega
  · exact l
  · have s := a.cnt_step h1
    rw [hn] at s
    have := a.cnt_mono (m := n + 1) (n := m) (by omega) (by omega)
    simp at s
    omega
/-- the next member -/
def Rs.Next (a : Rs) (n : Int) : Option Int → Prop
  | none => ∀ k, n ≤ k → a.has k = false
  | some r => n ≤ r ∧ a.has r = true ∧ ∀ k, n ≤ k → k < r → a.has k = false
theorem Rs.Next.uniq {n : Int} : ∀ {x y : Option Int}, a.Next n x → a.Next n y → x = y
  | none, none, _, _ => rfl
  | none, some r, h, k => by have := h r k.1; rw [k.2.1] at this; cases this
  | some r, none, k, h => by have := h r k.1; rw [k.2.1] at this; cases this
  | some r, some s, h, k => by
    rcases Int.lt_trichotomy r s with l | l | l
    · have := k.2.2 r h.1 l; rw [h.2.1] at this; cases this
    · rw [l]
    · have := h.2.2 s k.1 l; rw [k.2.1] at this; cases this
/-- the member of a place -/
def Rs.Nth (a : Rs) (k : Nat) : Option Int → Prop
  | none => ∀ r, 0 ≤ r → a.has r = true → a.cnt r ≠ k
  | some r => 0 ≤ r ∧ a.has r = true ∧ a.cnt r = k
theorem Rs.Nth.uniq {k : Nat} : ∀ {x y : Option Int}, a.Nth k x → a.Nth k y → x = y
  | none, none, _, _ => rfl
  | none, some r, h, k => absurd k.2.2 (h r k.1 k.2.1)
  | some r, none, k, h => absurd k.2.2 (h r k.1 k.2.1)
  | some r, some s, h, k => by rw [a.place_inj h.1 k.1 h.2.1 k.2.1 (h.2.2.trans k.2.2.symm)]
theorem Rs.nth_next {n : Int} (h0 : 0 ≤ n) : ∀ {x : Option Int}, a.Next n x → a.Nth (a.cnt n) x
  | none, h => fun r h1 h2 e => by
    have hr : r < n := by
      rcases Int.lt_or_le r n with l | l
      · exact l
      · have := h r l; rw [h2] at this; cases this
    have s := a.cnt_step h1
    rw [h2] at s
    have := a.cnt_mono (m := r + 1) (n := n) (by omega) (by omega)
    simp at s
    omega
  | some r, ⟨h1, h2, h3⟩ => ⟨by omega, h2, a.cnt_none h0 h1 h3⟩
end
end My


namespace My
theorem filt_get (p : Int → Bool) (s : Int) : ∀ (n i : Nat) (x : Int), ((rngI s n).filter p)[i]? = some x → s ≤ x ∧ x < s + n ∧ p x = true ∧ cntP p s (x - s).toNat = i
  | 0, i, x, h => by simp [rngI] at h
  | n + 1, i, x, h => by
    have e : rngI s (n + 1) = rngI s n ++ [s + (n : Int)] := by
      unfold rngI
      rw [List.range_succ, List.map_append]
      rfl
    rw [e, List.filter_append] at h
    by_cases hi : i < ((rngI s n).filter p).length
    · rw [List.getElem?_append_left hi] at h
      obtain ⟨h1, h2, h3, h4⟩ := filt_get p s n i x h
      exact ⟨h1, by omega, h3, h4⟩
    · rw [List.getElem?_append_right (by omega), cntP_rng] at h
      rw [cntP_rng] at hi
      cases hp : p (s + n) with
      | false =>
        rw [List.filter_cons_of_neg (by rw [hp]; decide)] at h
        simp at h
      | true =>
        rw [List.filter_cons_of_pos hp] at h
        have hz : i - cntP p s n = 0 := by
          have := (List.getElem?_eq_some_iff.mp h).1
          simp at this
          exact this
        rw [hz] at h
        simp at h
        subst h
        refine ⟨by omega, by omega, hp, ?_⟩
        rw [show (s + (n : Int) - s).toNat = n by omega]
        omega
theorem pairwise_rng (s : Int) : ∀ n : Nat, (rngI s n).Pairwise (· < ·)
  | 0 => List.Pairwise.nil
  | n + 1 => by
    have e : rngI s (n + 1) = rngI s n ++ [s + (n : Int)] := by
      unfold rngI
      rw [List.range_succ, List.map_append]
      rfl
    rw [e]
    refine List.pairwise_append.mpr ⟨pairwise_rng s n, by simp, fun x hx y hy => ?_⟩
    have := (mem_rngI.mp hx)
    have e : y = s + n := by simpa using hy
    omega
theorem filt_lt_len : ∀ {l : List Int}, l.Pairwise (· < ·) → ∀ (k : Nat) (x : Int), l[k]? = some x → (l.filter fun m => decide (m < x)).length = k
  | [], _, k, x, h => by simp at h
  | y :: l, hp, 0, x, h => by
    simp at h
    subst h
    rw [List.filter_eq_nil_iff.mpr fun m hm => ?_]
    · rfl
    · rcases List.mem_cons.mp hm with e | hm
      · simp [e]
      · have := List.rel_of_pairwise_cons hp hm
        simp
        omega
  | y :: l, hp, k + 1, x, h => by
    have h : l[k]? = some x := by simpa using h
    have := List.rel_of_pairwise_cons hp (List.mem_of_getElem? h)
    rw [List.filter_cons_of_pos (by simpa using this), List.length_cons, filt_lt_len hp.of_cons k x h]
theorem perm_of_nodup : ∀ {l m : List Int}, l.Nodup → m.Nodup → (∀ x, x ∈ l ↔ x ∈ m) → l.Perm m
  | [], m, _, _, h => by
    have : m = [] := List.eq_nil_iff_forall_not_mem.mpr fun x hx => by simpa using (h x).mpr hx
    subst this
    exact .nil
  | x :: l, m, hl, hm, h => by
    have hx : x ∈ m := (h x).mp (by simp)
    obtain ⟨m1, m2, rfl⟩ := List.append_of_mem hx
    have hm' : (m1 ++ m2).Nodup ∧ x ∉ m1 ++ m2 := by
      have := (List.perm_middle (a := x) (l₁ := m1) (l₂ := m2)).nodup_iff.mp hm
      exact ⟨this.of_cons, (List.nodup_cons.mp this).1⟩
    have ih := perm_of_nodup hl.of_cons hm'.1 fun y => by
      constructor
      · intro hy
        have : y ∈ m1 ++ x :: m2 := (h y).mp (List.mem_cons_of_mem _ hy)
        rcases List.mem_append.mp this with z | z
        · exact List.mem_append_left _ z
        · rcases List.mem_cons.mp z with e | z
          · subst e
            exact absurd hy (List.nodup_cons.mp hl).1
          · exact List.mem_append_right _ z
      · intro hy
        have : y ∈ x :: l := (h y).mpr (by
          rcases List.mem_append.mp hy with z | z
          · exact List.mem_append_left _ z
          · exact List.mem_append_right _ (List.mem_cons_of_mem _ z))
        rcases List.mem_cons.mp this with e | z
        · subst e
          exact absurd hy hm'.2
        · exact z
    exact (ih.cons x).trans List.perm_middle.symm
section
variable {a : Rs}
def Rs.rounds (a : Rs) : List Int := (rngI a.first a.turn.toNat).filter fun x => decide (x % a.turn ∈ a.rests)
theorem Rs.Wf.rounds_len (w : a.Wf) : a.rounds.length = a.rests.length := by
  unfold Rs.rounds
  rw [cntP_rng, w.win]
def Rs.nth (a : Rs) (k : Nat) : Option Int :=
  if k < a.few.length then a.few[k]? else if a.rests = [] then none else (a.rounds[(k - a.few.length) % a.rests.length]?).map fun x => x + ((k - a.few.length) / a.rests.length : Nat) * a.turn
theorem Rs.Wf.nth_ok (w : a.Wf) (k : Nat) : a.Nth k (a.nth k) := by
  unfold Rs.nth
  split
  · rename_i hk
    rw [List.getElem?_eq_getElem hk]
    have hx := w.fewIn a.few[k] (List.getElem_mem hk)
    refine ⟨hx.1, ?_, ?_⟩
    · rw [Rs.has_lo hx.2]
      exact decide_eq_true (List.getElem_mem hk)
    · rw [w.cnt_lo hx.1 (by omega)]
      exact filt_lt_len w.few k _ (List.getElem?_eq_getElem hk)
  · rename_i hk
    split
    · rename_i hr
      intro r h0 hh e
      have hlt : r < a.first := by
        rcases Int.lt_or_le r a.first with l | l
        · exact l
        · rw [Rs.has_hi l, hr] at hh
          simp at hh
      have s := a.cnt_step h0
      rw [hh] at s
      have := a.cnt_mono (m := r + 1) (n := a.first) (by omega) (by omega)
      rw [w.cnt_first] at this
      simp at s
      omega
    · rename_i hr
      have hL : 0 < a.rests.length := List.length_pos_iff.mpr hr
      have hi : (k - a.few.length) % a.rests.length < a.rounds.length := by rw [w.rounds_len]; exact Nat.mod_lt _ hL
      rw [List.getElem?_eq_getElem hi]
      have hg := List.getElem?_eq_getElem hi
      unfold Rs.rounds at hg
      obtain ⟨h1, h2, h3, h4⟩ := filt_get _ _ _ _ _ hg
      have ht := w.turn
      generalize hx : a.rounds[(k - a.few.length) % a.rests.length] = x at *
      have hx' : ((rngI a.first a.turn.toNat).filter fun x => decide (x % a.turn ∈ a.rests))[(k - a.few.length) % a.rests.length]'(hi) = x := hx
      rw [hx'] at h1 h2 h3 h4
      generalize hq : (k - a.few.length) / a.rests.length = q
      have hq0 : (0 : Int) ≤ q * a.turn := Int.mul_nonneg (by omega) (by omega)
      have hw := w.first
      refine ⟨by show 0 ≤ x + q * a.turn; omega, ?_, ?_⟩
      · show a.has (x + q * a.turn) = true
        rw [Rs.has_hi (by omega), Int.add_mul_emod_self_right]
        exact h3
      · show a.cnt (x + q * a.turn) = k
        have e : x + q * a.turn = a.first + q * a.turn + ((x - a.first).toNat : Int) := by omega
        have c : cntP (fun x => decide (x % a.turn ∈ a.rests)) (a.first + q * a.turn) (x - a.first).toNat = (k - a.few.length) % a.rests.length := by
          rw [← cntP_shift, ← h4]
          exact cntP_congr fun y _ _ => by rw [Int.add_mul_emod_self_right]
        rw [e, w.cnt_turns, c]
        have := Nat.div_add_mod (k - a.few.length) a.rests.length
        rw [hq, Nat.mul_comm] at this
        omega
theorem Rs.Wf.beg (w : a.Wf) {r : Int} (hr : r ∈ a.rests) : (a.first + (r - a.first) % a.turn) % a.turn = r := by
  have := w.restsIn r hr
  rw [Int.add_emod, Int.emod_emod_of_dvd _ (Int.dvd_refl _), ← Int.add_emod, show a.first + (r - a.first) = r by omega, Int.emod_eq_of_lt this.1 this.2]
theorem Rs.Wf.going (w : a.Wf) : sortI (a.rests.map fun r => a.first + (r - a.first) % a.turn) = a.rounds := by
  have ht := w.turn
  refine (sortI_eq ?_ ?_).symm
  · refine (perm_of_nodup ?_ ?_ ?_).symm
    · refine (List.pairwise_map.mpr ((List.Pairwise.imp_of_mem (fun {x y} hx hy h => ?_) (nodup_of_lt w.rests))))
      intro e
      have e2 := congrArg (· % a.turn) e
      simp only [w.beg hx, w.beg hy] at e2
      exact h e2
    · exact (nodup_of_lt (pairwise_rng _ _)).filter _
    · intro x
      unfold Rs.rounds
      simp only [List.mem_map, List.mem_filter, mem_rngI, decide_eq_true_eq]
      constructor
      · rintro ⟨r, hr, rfl⟩
        have h1 := Int.emod_nonneg (r - a.first) (by omega : a.turn ≠ 0)
        have h2 := Int.emod_lt_of_pos (r - a.first) ht
        exact ⟨by omega, by rw [w.beg hr]; exact hr⟩
      · rintro ⟨⟨h1, h2⟩, h3⟩
        refine ⟨x % a.turn, h3, ?_⟩
        rw [Int.sub_emod, Int.emod_emod_of_dvd _ (Int.dvd_refl _), ← Int.sub_emod, Int.emod_eq_of_lt (by omega) (by omega)]
        omega
  · exact ((pairwise_rng _ _).filter _).imp fun h => by omega
theorem ediv_pred {m t : Int} (ht : 0 < t) (hm : 1 ≤ m) : m / t = (m - 1) / t + if m % t = 0 then 1 else 0 := by
  have e := Int.emod_add_mul_ediv m t
  have h1 := Int.emod_nonneg m (by omega : t ≠ 0)
  have h2 := Int.emod_lt_of_pos m ht
  generalize m % t = y at *
  generalize m / t = q at *
  split
  · rename_i hy
    have e2 : m - 1 = (t - 1) + t * (q - 1) := by rw [Int.mul_sub]; omega
    rw [e2, Int.add_mul_ediv_left _ _ (by omega), Int.ediv_eq_zero_of_lt (by omega) (by omega)]
    omega
  · rename_i hy
    have e2 : m - 1 = (y - 1) + t * q := by omega
    rw [e2, Int.add_mul_ediv_left _ _ (by omega), Int.ediv_eq_zero_of_lt (by omega) (by omega)]
    omega
/-- members of one rest below n -/
def Rs.part (a : Rs) (n r : Int) : Int := if a.first + (r - a.first) % a.turn < n then (n - 1 - (a.first + (r - a.first) % a.turn)) / a.turn + 1 else 0
theorem Rs.Wf.part_cnt (w : a.Wf) {r : Int} (hr : r ∈ a.rests) : ∀ j : Nat, a.part (a.first + j) r = (cntP (fun x => decide (x % a.turn = r)) a.first j : Nat)
  | 0 => by
    have h1 := Int.emod_nonneg (r - a.first) (by have := w.turn; omega : a.turn ≠ 0)
    unfold Rs.part
    rw [if_neg (by omega)]
    rfl
  | j + 1 => by
    have ht := w.turn
    have h1 := Int.emod_nonneg (r - a.first) (by omega : a.turn ≠ 0)
    have h2 := Int.emod_lt_of_pos (r - a.first) ht
    have hb := w.beg hr
    have ih := w.part_cnt hr j
    show _ = ((cntP (fun x => decide (x % a.turn = r)) a.first j + (if decide ((a.first + (j : Int)) % a.turn = r) = true then 1 else 0) : Nat) : Int)
    conv => rhs; rw [Int.natCast_add, ← ih]
    have iff : (a.first + (j : Int)) % a.turn = r ↔ ((j : Int) - (r - a.first) % a.turn) % a.turn = 0 := by
      conv => lhs; rhs; rw [← hb]
      rw [Int.emod_eq_emod_iff_emod_sub_eq_zero, show a.first + (j : Int) - (a.first + (r - a.first) % a.turn) = (j : Int) - (r - a.first) % a.turn by omega]
    simp only [decide_eq_true_eq, iff]
    unfold Rs.part
    generalize (r - a.first) % a.turn = b at *
    rcases Int.lt_trichotomy (j : Int) b with l | l | l
    · rw [if_neg (by omega), if_neg (by omega), if_neg]
      · rfl
      · intro z
        rw [← Int.add_emod_right, Int.emod_eq_of_lt (by omega) (by omega)] at z
        omega
    · rw [if_pos (by omega), if_neg (by omega), if_pos (by rw [show (j : Int) - b = 0 by omega]; rfl), show a.first + ((j + 1 : Nat) : Int) - 1 - (a.first + b) = 0 by omega, Int.zero_ediv]
      rfl
    · have := ediv_pred ht (m := (j : Int) - b) (by omega)
      rw [if_pos (by omega), if_pos (by omega), show a.first + ((j + 1 : Nat) : Int) - 1 - (a.first + b) = (j : Int) - b by omega, show a.first + (j : Int) - 1 - (a.first + b) = (j : Int) - b - 1 by omega, this]
      split <;> simp <;> omega
theorem sum_cnt {t : Int} : ∀ (rs : List Int) (s : Int) (n : Nat), rs.Nodup → ((rs.map fun r => (cntP (fun x => decide (x % t = r)) s n : Int)).sum) = (cntP (fun x => decide (x % t ∈ rs)) s n : Nat)
  | [], s, n, _ => by
    have : ∀ n, cntP (fun x => decide (x % t ∈ ([] : List Int))) s n = 0 := by
      intro n
      induction n with
      | zero => rfl
      | succ n ih =>
        show cntP _ s n + _ = 0
        rw [ih]
        simp
    rw [this]
    rfl
  | r :: rs, s, n, h => by
    rw [List.map_cons, List.sum_cons, sum_cnt rs s n h.of_cons]
    have nr := (List.nodup_cons.mp h).1
    have : ∀ n, cntP (fun x => decide (x % t ∈ r :: rs)) s n = cntP (fun x => decide (x % t = r)) s n + cntP (fun x => decide (x % t ∈ rs)) s n := by
      intro n
      induction n with
      | zero => rfl
      | succ n ih =>
        show cntP _ s n + _ = (cntP _ s n + _) + (cntP _ s n + _)
        rw [ih]
        by_cases e : (s + (n : Int)) % t = r
        · have : (s + (n : Int)) % t ∉ rs := by rw [e]; exact nr
          simp only [e, List.mem_cons, true_or, decide_true, if_true]
          rw [e] at this
          simp [this]
          omega
        · simp only [List.mem_cons, e, false_or, decide_false]
          simp
          omega
    rw [this]
    omega
/-- the program's sum is the count -/
theorem Rs.Wf.cnt_sum (w : a.Wf) {n : Int} (h : a.first ≤ n) : (a.cnt n : Int) = a.few.length + (a.rests.map fun r => a.part n r).sum := by
  rw [w.cnt_hi h, Int.natCast_add, ← sum_cnt a.rests a.first _ (nodup_of_lt w.rests)]
  congr 2
  refine List.map_congr_left fun r hr => ?_
  rw [← w.part_cnt hr, show a.first + ((n - a.first).toNat : Int) = n by omega]
end
end My


namespace My
open PySem PySem.Spec PyProof.Rows L2
/-! ### the one form of a round set -/
/-- who goes round -/
def Rs.P (a : Rs) (n : Int) : Bool := decide (n % a.turn ∈ a.rests)
def Per (p : Int → Bool) (t : Int) : Prop := ∀ n, p (n + t) = p n
theorem Per.mul {p : Int → Bool} {t : Int} (h : Per p t) : ∀ k : Nat, Per p (t * k)
  | 0 => fun n => by rw [show n + t * ((0 : Nat) : Int) = n by simp]
  | k + 1 => fun n => by
    rw [show n + t * ((k + 1 : Nat) : Int) = (n + t * (k : Int)) + t by rw [Int.natCast_add, Int.mul_add]; simp; omega, h, Per.mul h k]
theorem Per.neg {p : Int → Bool} {t : Int} (h : Per p t) : Per p (-t) := fun n => by
  have := h (n + -t)
  rw [show n + -t + t = n by omega] at this
  exact this.symm
theorem Per.add {p : Int → Bool} {s t : Int} (h : Per p s) (h2 : Per p t) : Per p (s + t) := fun n => by rw [← Int.add_assoc, h2, h]
theorem Per.gcd {p : Int → Bool} : ∀ (m n : Nat), Per p (m : Int) → Per p (n : Int) → Per p (Nat.gcd m n : Nat) := fun m n => by
  induction m, n using Nat.gcd.induction with
  | H0 n => intro _ h; rw [Nat.gcd_zero_left]; exact h
  | H1 m n hm ih =>
    intro h1 h2
    rw [Nat.gcd_rec]
    refine ih ?_ h1
    have e : ((n % m : Nat) : Int) = (n : Int) + -((m : Int) * ((n / m : Nat) : Int)) := by
      have := Nat.mod_add_div n m
      have e2 : ((n % m : Nat) : Int) + (m : Int) * ((n / m : Nat) : Int) = (n : Int) := by
        rw [← Int.natCast_mul, ← Int.natCast_add, this]
      omega
    rw [e]
    exact h2.add (h1.mul (n / m)).neg
theorem Rs.perP (a : Rs) : Per a.P a.turn := fun n => by
  unfold Rs.P
  rw [Int.add_emod_right]
structure Rs.Canon (a : Rs) : Prop where
  wf : a.Wf
  turn : ∀ d, 0 < d → d < a.turn → a.turn % d = 0 → ¬ Per a.P d
  first : 0 < a.first → decide (a.first - 1 ∈ a.few) ≠ a.P (a.first - 1)
theorem per_same {p q : Int → Bool} {s t f : Int} (hs : 0 < s) (ht : 0 < t) (h1 : Per p s) (h2 : Per q t) (h : ∀ n, f ≤ n → 0 ≤ n → p n = q n) : ∀ n, p n = q n := fun n => by
  have a1 : Per p (s * t * (n.natAbs + f.natAbs : Nat)) := by
    have z := h1.mul t.toNat
    rw [show ((t.toNat : Nat) : Int) = t by omega] at z
    exact z.mul _
  have a2 : Per q (s * t * (n.natAbs + f.natAbs : Nat)) := by
    have z := h2.mul s.toNat
    rw [show ((s.toNat : Nat) : Int) = s by omega, Int.mul_comm] at z
    exact z.mul _
  have b : (1 : Int) ≤ s * t := Int.mul_pos hs ht
  have c : ((n.natAbs + f.natAbs : Nat) : Int) ≤ s * t * (n.natAbs + f.natAbs : Nat) := by
    have := Int.mul_le_mul_of_nonneg_right b (Int.natCast_nonneg (n.natAbs + f.natAbs))
    rw [Int.one_mul] at this
    exact this
  rw [← a1 n, ← a2 n]
  refine h _ ?_ ?_ <;> omega
theorem Rs.Wf.mem_rests {a : Rs} (w : a.Wf) {r : Int} : r ∈ a.rests ↔ 0 ≤ r ∧ r < a.turn ∧ a.P r = true := by
  unfold Rs.P
  rw [decide_eq_true_eq]
  constructor
  · intro h
    have := w.restsIn r h
    refine ⟨this.1, this.2, ?_⟩
    rw [Int.emod_eq_of_lt this.1 this.2]
    exact h
  · rintro ⟨h1, h2, h3⟩
    rw [Int.emod_eq_of_lt h1 h2] at h3
    exact h3
theorem Rs.Wf.mem_few {a : Rs} (w : a.Wf) {k : Int} : k ∈ a.few ↔ 0 ≤ k ∧ k < a.first ∧ a.has k = true := by
  constructor
  · intro h
    have := w.fewIn k h
    exact ⟨this.1, this.2, by rw [Rs.has_lo this.2]; exact decide_eq_true h⟩
  · rintro ⟨h1, h2, h3⟩
    rw [Rs.has_lo h2] at h3
    exact of_decide_eq_true h3
theorem Rs.hasP {a : Rs} {n : Int} (h : a.first ≤ n) : a.has n = a.P n := Rs.has_hi h
theorem canon_le {a b : Rs} (ca : a.Canon) (cb : b.Canon) (h : ∀ n, a.P n = b.P n) : a.turn ≤ b.turn := by
  have ta := ca.wf.turn
  have tb := cb.wf.turn
  have pa : Per a.P (a.turn.toNat : Int) := by rw [show ((a.turn.toNat : Nat) : Int) = a.turn by omega]; exact a.perP
  have pb : Per a.P (b.turn.toNat : Int) := by
    rw [show ((b.turn.toNat : Nat) : Int) = b.turn by omega]
    intro n
    rw [h, h]
    exact b.perP n
  have g := Per.gcd _ _ pa pb
  have g1 := Nat.gcd_dvd_left a.turn.toNat b.turn.toNat
  have g2 : Nat.gcd a.turn.toNat b.turn.toNat ≤ b.turn.toNat := Nat.le_of_dvd (by omega) (Nat.gcd_dvd_right _ _)
  have g0 : 0 < Nat.gcd a.turn.toNat b.turn.toNat := Nat.gcd_pos_of_pos_left _ (by omega)
  by_cases e : (Nat.gcd a.turn.toNat b.turn.toNat : Int) < a.turn
  · refine absurd g (ca.turn _ (by omega) e ?_)
    obtain ⟨k, hk⟩ := g1
    have : a.turn = (Nat.gcd a.turn.toNat b.turn.toNat : Int) * (k : Int) := by
      rw [← Int.natCast_mul, ← hk]
      omega
    exact Int.emod_eq_zero_of_dvd ⟨_, this⟩
  · omega
theorem Rs.Canon.uniq {a b : Rs} (ca : a.Canon) (cb : b.Canon) (h : ∀ n, 0 ≤ n → a.has n = b.has n) : a = b := by
  have hP : ∀ n, a.P n = b.P n := per_same (f := a.first + b.first) ca.wf.turn cb.wf.turn a.perP b.perP fun n h1 h0 => by
    have := ca.wf.first
    have := cb.wf.first
    rw [← Rs.hasP (a := a) (by omega), ← Rs.hasP (a := b) (by omega)]
    exact h n h0
  have et : a.turn = b.turn := Int.le_antisymm (canon_le ca cb hP) (canon_le cb ca fun n => (hP n).symm)
  have er : a.rests = b.rests := lt_uniq ca.wf.rests cb.wf.rests fun k => by rw [ca.wf.mem_rests, cb.wf.mem_rests, et, hP]
  have le : ∀ {a b : Rs}, a.Canon → b.Canon → (∀ n, 0 ≤ n → a.has n = b.has n) → (∀ n, a.P n = b.P n) → b.first ≤ a.first := by
    intro a b ca cb h hP
    have := ca.wf.first
    by_cases e : a.first < b.first
    · have c := cb.first (by omega)
      have z := h (b.first - 1) (by omega)
      rw [Rs.hasP (a := a) (by omega), Rs.has_lo (a := b) (by omega), hP] at z
      exact absurd z.symm c
    · omega
  have ef : a.first = b.first := Int.le_antisymm (le cb ca (fun n h0 => (h n h0).symm) fun n => (hP n).symm) (le ca cb h hP)
  have ew : a.few = b.few := lt_uniq ca.wf.few cb.wf.few fun k => by
    rw [ca.wf.mem_few, cb.wf.mem_few, ef]
    constructor
    · rintro ⟨h0, h1, h2⟩
      exact ⟨h0, h1, (h k h0) ▸ h2⟩
    · rintro ⟨h0, h1, h2⟩
      exact ⟨h0, h1, (h k h0).symm ▸ h2⟩
  cases a
  cases b
  simp only at et er ef ew
  subst et er ef ew
  rfl
/-- no member at all -/
def noneR : Rs := ⟨[], 0, 1, []⟩
theorem noneR_canon : noneR.Canon := ⟨⟨by decide, by decide, by decide, by decide, by decide, by decide⟩, fun d h1 h2 _ => by have : noneR.turn = 1 := rfl; omega, fun h => by cases h⟩
theorem noneR_has (n : Int) : noneR.has n = false := by
  unfold Rs.has noneR
  simp
/-- a set that ends -/
theorem canon_fin {few : List Int} {first : Int} (hw : few.Pairwise (· < ·)) (hi : ∀ m ∈ few, 0 ≤ m ∧ m < first) (h0 : 0 ≤ first) (hl : 0 < first → first - 1 ∈ few) : (⟨few, first, 1, []⟩ : Rs).Canon :=
  ⟨⟨hw, hi, h0, by show (0 : Int) < 1; decide, List.Pairwise.nil, fun r h => by cases h⟩, fun d h1 h2 _ => by
    have h2 : d < 1 := h2
    omega, fun h => by
    have z : decide (first - 1 ∈ few) = true := decide_eq_true (hl h)
    show decide (first - 1 ∈ few) ≠ decide ((first - 1) % 1 ∈ ([] : List Int))
    rw [z]
    simp⟩
end My


namespace My
open PySem PySem.Spec PyProof.Rows L2
theorem fSet_tup (ns : List Int) (st : Sto) : fSet [.tup (ns.map D.int)] st = if ns.length < 4000 then some (.set ns, st) else none := by
  show ((some (ns.map D.int)).bind fun es => (intsOf es).bind fun ns => if ns.length < 4000 then some (D.set ns, st) else none) = _
  rw [b_some, intsOf_map, b_some]
theorem fSet_lst (ns : List Int) (st : Sto) : fSet [.lst (ns.map D.int)] st = if ns.length < 4000 then some (.set ns, st) else none := fSet_tup ns st
theorem fInS_int (neg : Bool) (k : Int) (ns : List Int) (st : Sto) : fInS neg (.int k) (.set ns) st = some (.bl (if neg then !decide (k ∈ ns) else decide (k ∈ ns)), st) := rfl
theorem fSortS_set (ns : List Int) (st : Sto) : fSortS [.set ns] st = some (.lst ((sU ns).map D.int), st) := rfl
theorem fAll_lst (bs : List Bool) (st : Sto) : fAll [.lst (bs.map D.bl)] st = some (.bl (bs.all id), st) := by
  show ((some (bs.map D.bl)).bind fun es => (boolsOf es).map fun ns => (D.bl (ns.all id), st)) = _
  rw [b_some, boolsOf_map, m_some]
theorem z0 : (0 ≤ PySem.sizeLine) = True := eq_true (szle (by decide))
theorem z1 : (1 ≤ PySem.sizeLine) = True := eq_true (szle (by decide))
theorem z2 : (2 ≤ PySem.sizeLine) = True := eq_true (szle (by decide))
theorem z3 : (3 ≤ PySem.sizeLine) = True := eq_true (szle (by decide))
theorem z4 : (4 ≤ PySem.sizeLine) = True := eq_true (szle (by decide))
theorem z5 : (5 ≤ PySem.sizeLine) = True := eq_true (szle (by decide))
theorem z6 : (6 ≤ PySem.sizeLine) = True := eq_true (szle (by decide))
theorem z7 : (7 ≤ PySem.sizeLine) = True := eq_true (szle (by decide))
theorem z8 : (8 ≤ PySem.sizeLine) = True := eq_true (szle (by decide))
theorem z9 : (9 ≤ PySem.sizeLine) = True := eq_true (szle (by decide))
theorem fAdd_lsts {xs ys : List D} {st : Sto} (h : xs.length + ys.length < 10000000) : fAdd false (.lst xs) (.lst ys) st = some (.lst (xs ++ ys), st) := by
  rw [fAdd_lst, if_pos (szle h)]
  rfl
theorem mDef_new {N n : Nat} {b : MS} {ds : List D} {st st' s : Sto} {d d' : D} (hl : ds.length = n) (h : b (ds.map some ++ List.replicate (N - ds.length) none) st = some (.rt d, st')) (hs : My.settle st d st' = (d', s)) : mDef N n b ds st = some (d', s) := by
  unfold mDef
  rw [if_pos hl, h]
  show some (My.settle st d st') = _
  rw [hs]
theorem settle_new {d : D} {st st' : Sto} (h : ¬ st'.length ≤ st.length) (hc : clo st.length d = false) : My.settle st d st' = (d, st') := by
  unfold My.settle
  rw [if_neg h, if_neg (by rintro ⟨h, _⟩; rw [hc] at h; cases h)]
theorem settle_any (st st' : Sto) (d : D) : ∃ x, My.settle st d st' = (d, x) := by
  unfold My.settle
  split
  · exact ⟨_, rfl⟩
  · split
    · exact ⟨_, rfl⟩
    · exact ⟨_, rfl⟩
theorem rngI_succ (lo : Int) (n : Nat) : rngI lo (n + 1) = rngI lo n ++ [lo + n] := by
  unfold rngI
  rw [List.range_succ, List.map_append]
  rfl
theorem rngI_lt (lo : Int) : ∀ n : Nat, (rngI lo n).Pairwise (· < ·)
  | 0 => List.Pairwise.nil
  | n + 1 => by
    rw [rngI_succ]
    refine List.pairwise_append.mpr ⟨rngI_lt lo n, List.pairwise_singleton _ _, fun a ha b hb => ?_⟩
    have := (mem_rngI.mp ha).2
    have e := List.mem_singleton.mp hb
    omega
/-! ### the form of what is handed to formed -/
/-- its rests shifted stay in it -/
def Rs.reg (a : Rs) (d : Int) : Bool := (a.rests.map fun r => decide ((r + d) % a.turn ∈ a.rests)).all id
theorem Rs.reg_per {a : Rs} (w : a.Wf) {d : Int} (hd : 0 < d) : a.reg d = true ↔ Per a.P d := by
  have ht := w.turn
  have key : a.reg d = true ↔ ∀ r ∈ a.rests, (r + d) % a.turn ∈ a.rests := by
    unfold Rs.reg
    rw [List.all_map, List.all_eq_true]
    constructor
    · intro h r hr
      exact of_decide_eq_true (h r hr)
    · intro h r hr
      exact decide_eq_true (h r hr)
  rw [key]
  constructor
  · intro h
    have fw : ∀ n, a.P n = true → a.P (n + d) = true := by
      intro n hn
      unfold Rs.P at hn ⊢
      have z := h _ (of_decide_eq_true hn)
      rw [Int.emod_add_emod] at z
      exact decide_eq_true z
    have fk : ∀ (k : Nat) n, a.P n = true → a.P (n + d * k) = true := by
      intro k
      induction k with
      | zero => intro n hn; simpa using hn
      | succ k ih =>
        intro n hn
        have z := fw _ (ih n hn)
        rw [show n + d * ((k + 1 : Nat) : Int) = n + d * (k : Int) + d by rw [Int.natCast_add, Int.mul_add]; simp; omega]
        exact z
    intro n
    cases h1 : a.P n with
    | true => exact fw n h1
    | false =>
      cases h2 : a.P (n + d) with
      | false => rfl
      | true =>
        have z := fk (a.turn.toNat - 1) (n + d) h2
        have e : n + d + d * ((a.turn.toNat - 1 : Nat) : Int) = n + a.turn * (d.toNat : Nat) := by
          have e1 : ((a.turn.toNat - 1 : Nat) : Int) = a.turn - 1 := by omega
          have e2 : ((d.toNat : Nat) : Int) = d := by omega
          rw [e1, e2, Int.mul_sub, Int.mul_one, Int.mul_comm a.turn d]
          omega
        rw [e, a.perP.mul d.toNat, h1] at z
        cases z
  · intro h r hr
    have z : a.P (r + d) = true := by
      rw [h r]
      exact (w.mem_rests.mp hr).2.2
    exact of_decide_eq_true z
/-- what formed gives -/
theorem Rs.per_any {a : Rs} {d : Int} (h : Per a.P d) {m n : Int} (e : m % d = n % d) (hd : 0 < d) : a.P m = a.P n := by
  have e1 := Int.mul_ediv_add_emod m d
  have e2 := Int.mul_ediv_add_emod n d
  have e3 : m = n + d * (m / d - n / d) := by
    rw [Int.mul_sub]
    omega
  by_cases c : n / d ≤ m / d
  · have z := h.mul (m / d - n / d).toNat n
    rw [show (((m / d - n / d).toNat : Nat) : Int) = m / d - n / d by omega, ← e3] at z
    exact z
  · have z := h.mul (n / d - m / d).toNat m
    rw [show (((n / d - m / d).toNat : Nat) : Int) = n / d - m / d by omega] at z
    rw [← z]
    congr 1
    rw [Int.mul_sub]
    rw [Int.mul_sub] at e3
    omega
def Rs.shr (a : Rs) (d f : Int) : Rs := ⟨a.few.filter fun m => decide (m < f), f, d, sU (a.rests.map fun r => r % d)⟩
theorem Rs.shr_P {a : Rs} (w : a.Wf) {d f : Int} (hd : 0 < d) (hm : a.turn % d = 0) (h : Per a.P d) (n : Int) : (a.shr d f).P n = a.P n := by
  show decide (n % d ∈ sU (a.rests.map fun r => r % d)) = _
  have ht := w.turn
  cases hp : a.P n with
  | true =>
    refine decide_eq_true (mem_sU.mpr (List.mem_map.mpr ⟨n % a.turn, of_decide_eq_true hp, ?_⟩))
    exact Int.emod_emod_of_dvd n (Int.dvd_of_emod_eq_zero hm)
  | false =>
    refine decide_eq_false fun z => ?_
    obtain ⟨r, hr, e⟩ := List.mem_map.mp (mem_sU.mp z)
    have := Rs.per_any h e hd
    rw [hp, (w.mem_rests.mp hr).2.2] at this
    cases this
theorem Rs.shr_ok {a : Rs} (w : a.Wf) {d f : Int} (hd : 0 < d) (hm : a.turn % d = 0) (h : Per a.P d) (hmin : ∀ c, 0 < c → c < d → a.turn % c = 0 → ¬ Per a.P c) (f0 : 0 ≤ f) (ff : f ≤ a.first)
    (fm : ∀ n, f ≤ n → n < a.first → decide (n ∈ a.few) = a.P n) (fe : 0 < f → decide (f - 1 ∈ a.few) ≠ a.P (f - 1)) : (a.shr d f).Canon ∧ ∀ n, 0 ≤ n → (a.shr d f).has n = a.has n := by
  have hP := Rs.shr_P (f := f) w hd hm h
  have dt : d ∣ a.turn := Int.dvd_of_emod_eq_zero hm
  refine ⟨⟨⟨w.few.filter _, fun m hm => ?_, f0, hd, sU_lt _, fun r hr => ?_⟩, fun c c0 c1 c2 hc => ?_, fun f1 => ?_⟩, fun n h0 => ?_⟩
  · obtain ⟨h1, h2⟩ := List.mem_filter.mp hm
    exact ⟨(w.fewIn m h1).1, of_decide_eq_true h2⟩
  · obtain ⟨q, _, rfl⟩ := List.mem_map.mp (mem_sU.mp hr)
    exact ⟨Int.emod_nonneg _ (by show d ≠ 0; omega), Int.emod_lt_of_pos _ hd⟩
  · refine hmin c c0 c1 ?_ fun n => ?_
    · exact Int.emod_eq_zero_of_dvd (Int.dvd_trans (Int.dvd_of_emod_eq_zero c2) dt)
    · rw [← hP, ← hP]
      exact hc n
  · show decide (f - 1 ∈ a.few.filter fun m => decide (m < f)) ≠ _
    rw [show (a.shr d f).first = f from rfl, hP]
    have e : decide (f - 1 ∈ a.few.filter fun m => decide (m < f)) = decide (f - 1 ∈ a.few) := decide_eq_decide.mpr (by
      rw [List.mem_filter]
      constructor
      · exact fun h => h.1
      · exact fun h => ⟨h, decide_eq_true (by omega)⟩)
    rw [e]
    exact fe f1
  · by_cases c : n < f
    · rw [Rs.has_lo (a := a.shr d f) c, Rs.has_lo (a := a) (by omega)]
      exact decide_eq_decide.mpr (by
        show n ∈ a.few.filter (fun m => decide (m < f)) ↔ _
        rw [List.mem_filter]
        constructor
        · exact fun h => h.1
        · exact fun h => ⟨h, decide_eq_true c⟩)
    · rw [Rs.hasP (a := a.shr d f) (by show f ≤ n; omega), hP]
      by_cases c2 : n < a.first
      · rw [Rs.has_lo c2]
        exact (fm n (by omega) c2).symm
      · rw [Rs.hasP (by omega)]
def Rs.lb (a : Rs) (m : Int) : List Int := (a.few.filter fun k => decide (k < m)) ++ (rngI a.first (m - a.first).toNat).filter fun n => decide (n % a.turn ∈ a.rests)
theorem Rs.mem_lb (a : Rs) (w : a.Wf) {m k : Int} : k ∈ a.lb m ↔ 0 ≤ k ∧ k < m ∧ a.has k = true := by
  have f0 := w.first
  unfold Rs.lb
  rw [List.mem_append, List.mem_filter, List.mem_filter, mem_rngI, decide_eq_true_eq]
  constructor
  · rintro (⟨h1, h2⟩ | ⟨⟨h1, h2⟩, h3⟩)
    · have z := w.mem_few.mp h1
      exact ⟨z.1, h2, z.2.2⟩
    · exact ⟨by omega, by omega, (Rs.hasP h1).trans h3⟩
  · rintro ⟨h1, h2, h3⟩
    by_cases c : k < a.first
    · exact .inl ⟨w.mem_few.mpr ⟨h1, c, h3⟩, h2⟩
    · exact .inr ⟨⟨by omega, by omega⟩, (Rs.hasP (a := a) (by omega)).symm.trans h3⟩
theorem Rs.lb_lt (a : Rs) (w : a.Wf) (m : Int) : (a.lb m).Pairwise (· < ·) := by
  refine List.pairwise_append.mpr ⟨w.few.filter _, (rngI_lt _ _).filter _, fun x hx y hy => ?_⟩
  have h1 := w.fewIn x (List.mem_filter.mp hx).1
  have h2 := mem_rngI.mp (List.mem_filter.mp hy).1
  omega
theorem lens {a : Rs} (w : a.Wf) : a.rests.length ≤ a.turn.toNat := by
  have := cntP_le (fun x => decide (x % a.turn ∈ a.rests)) 0 a.turn.toNat
  rwa [w.win] at this
theorem fewlen {a : Rs} (w : a.Wf) : a.few.length ≤ a.first.toNat := by
  rw [← w.cnt_first]
  exact cntP_le _ _ _
theorem len_lt : ∀ {l : List Int} {lo hi : Int}, l.Pairwise (· < ·) → (∀ k ∈ l, lo ≤ k ∧ k < hi) → l.length ≤ (hi - lo).toNat
  | [], _, _, _, _ => Nat.zero_le _
  | x :: l, lo, hi, h, hb => by
    obtain ⟨h1, h2⟩ := List.pairwise_cons.mp h
    have b := hb x (List.mem_cons_self ..)
    have ih := len_lt (lo := x + 1) (hi := hi) h2 fun k hk => by
      have := h1 k hk
      have := hb k (List.mem_cons_of_mem _ hk)
      omega
    rw [List.length_cons]
    omega
theorem Rs.lb_len (a : Rs) (w : a.Wf) (m : Int) : (a.lb m).length ≤ m.toNat := by
  have := len_lt (lo := 0) (hi := m) (a.lb_lt w m) fun k hk => by
    have := (a.mem_lb w).mp hk
    omega
  omega
end My


namespace My
open PySem PySem.Spec PyProof.Rows L2
/-- of a row of truths that goes round from f on -/
def winR (T : Int → Bool) (f t : Int) : Rs := ⟨(rngI 0 f.toNat).filter T, f, t, sortI (((rngI f t.toNat).filter T).map fun n => n % t)⟩
theorem far_per {T : Int → Bool} {f t : Int} (ht : 0 < t) (h : ∀ n, f ≤ n → T (n + t) = T n) : ∀ (k : Nat) n, f ≤ n → T (n + t * k) = T n
  | 0, n, _ => by simp
  | k + 1, n, hn => by
    rw [show n + t * ((k + 1 : Nat) : Int) = n + t * (k : Int) + t by rw [Int.natCast_add, Int.mul_add]; simp; omega, h _ (by have := Int.mul_nonneg (Int.le_of_lt ht) (Int.natCast_nonneg k); omega), far_per ht h k n hn]
theorem far_same {T : Int → Bool} {f t : Int} (ht : 0 < t) (h : ∀ n, f ≤ n → T (n + t) = T n) {m n : Int} (hm : f ≤ m) (hn : f ≤ n) (e : m % t = n % t) : T m = T n := by
  have e1 := Int.mul_ediv_add_emod m t
  have e2 := Int.mul_ediv_add_emod n t
  have e3 : m = n + t * (m / t - n / t) := by
    rw [Int.mul_sub]
    omega
  by_cases c : n / t ≤ m / t
  · have z := far_per ht h (m / t - n / t).toNat n hn
    rw [show (((m / t - n / t).toNat : Nat) : Int) = m / t - n / t by omega, ← e3] at z
    exact z
  · have z := far_per ht h (n / t - m / t).toNat m hm
    rw [show (((n / t - m / t).toNat : Nat) : Int) = n / t - m / t by omega] at z
    rw [← z]
    congr 1
    rw [Int.mul_sub]
    rw [Int.mul_sub] at e3
    omega
theorem emod_win {f t m n : Int} (ht : 0 < t) (h1 : f ≤ m) (h2 : m < f + t) (h3 : f ≤ n) (h4 : n < f + t) (e : m % t = n % t) : m = n := by
  have e1 := Int.mul_ediv_add_emod m t
  have e2 := Int.mul_ediv_add_emod n t
  have e3 : m - n = t * (m / t - n / t) := by
    rw [Int.mul_sub]
    omega
  by_cases c : m / t - n / t = 0
  · rw [c, Int.mul_zero] at e3
    omega
  · by_cases c2 : 0 < m / t - n / t
    · have := Int.mul_le_mul_of_nonneg_left (show (1 : Int) ≤ m / t - n / t by omega) (Int.le_of_lt ht)
      omega
    · have := Int.mul_le_mul_of_nonneg_left (show m / t - n / t ≤ (-1 : Int) by omega) (Int.le_of_lt ht)
      omega
/-- in every window stands one number of each rest -/
theorem win_rep {f t : Int} (ht : 0 < t) (n : Int) : ∃ m, f ≤ m ∧ m < f + t ∧ m % t = n % t := by
  refine ⟨f + (n - f) % t, ?_, ?_, ?_⟩
  · have := Int.emod_nonneg (n - f) (show t ≠ 0 by omega)
    omega
  · have := Int.emod_lt_of_pos (n - f) ht
    omega
  · rw [Int.add_emod_emod]
    congr 1
    omega
theorem winR_rests {T : Int → Bool} {f t : Int} (ht : 0 < t) {r : Int} : r ∈ (winR T f t).rests ↔ ∃ m, f ≤ m ∧ m < f + t ∧ T m = true ∧ m % t = r := by
  show r ∈ sortI _ ↔ _
  rw [(sortI_perm _).mem_iff, List.mem_map]
  constructor
  · rintro ⟨m, hm, e⟩
    obtain ⟨h1, h2⟩ := List.mem_filter.mp hm
    have := mem_rngI.mp h1
    exact ⟨m, by omega, by omega, h2, e⟩
  · rintro ⟨m, h1, h2, h3, e⟩
    exact ⟨m, List.mem_filter.mpr ⟨mem_rngI.mpr (by omega), h3⟩, e⟩
theorem winR_wf {T : Int → Bool} {f t : Int} (hf : 0 ≤ f) (ht : 0 < t) : (winR T f t).Wf := by
  refine ⟨(rngI_lt _ _).filter _, fun m hm => ?_, hf, ht, ?_, fun r hr => ?_⟩
  · have := mem_rngI.mp (List.mem_filter.mp hm).1
    show 0 ≤ m ∧ m < f
    omega
  · refine lt_of_le_nodup _ (sortI_pair _) ((sortI_perm _).nodup_iff.mpr ?_)
    refine List.pairwise_map.mpr ?_
    have hs := (rngI_lt f t.toNat).filter T
    refine List.Pairwise.imp_of_mem (fun {x y} hx hy hxy => ?_) hs
    have h1 := mem_rngI.mp (List.mem_filter.mp hx).1
    have h2 := mem_rngI.mp (List.mem_filter.mp hy).1
    intro e
    have := emod_win (f := f) ht (by omega) (by omega) (by omega) (by omega) e
    omega
  · obtain ⟨m, _, _, _, rfl⟩ := (winR_rests ht).mp hr
    exact ⟨Int.emod_nonneg _ (by show t ≠ 0; omega), Int.emod_lt_of_pos _ ht⟩
theorem winR_P {T : Int → Bool} {f t : Int} (ht : 0 < t) (h : ∀ n, f ≤ n → T (n + t) = T n) {n : Int} (hn : f ≤ n) : (winR T f t).P n = T n := by
  show decide (n % t ∈ (winR T f t).rests) = _
  cases hT : T n with
  | true =>
    obtain ⟨m, h1, h2, h3⟩ := win_rep (f := f) ht n
    exact decide_eq_true ((winR_rests ht).mpr ⟨m, h1, h2, (far_same ht h h1 hn h3).trans hT, h3⟩)
  | false =>
    refine decide_eq_false fun z => ?_
    obtain ⟨m, h1, h2, h3, h4⟩ := (winR_rests ht).mp z
    rw [far_same ht h h1 hn h4, hT] at h3
    cases h3
theorem winR_has {T : Int → Bool} {f t : Int} (hf : 0 ≤ f) (ht : 0 < t) (h : ∀ n, f ≤ n → T (n + t) = T n) {n : Int} (h0 : 0 ≤ n) : (winR T f t).has n = T n := by
  by_cases c : n < f
  · rw [Rs.has_lo (a := winR T f t) c]
    show decide (n ∈ (rngI 0 f.toNat).filter T) = _
    rw [show decide (n ∈ (rngI 0 f.toNat).filter T) = decide (T n = true) from decide_eq_decide.mpr (by
      rw [List.mem_filter, mem_rngI]
      exact ⟨fun h => h.2, fun h => ⟨by omega, h⟩⟩)]
    simp
  · rw [Rs.hasP (a := winR T f t) (by show f ≤ n; omega), winR_P ht h (by omega)]
theorem filt_filt {T p : Int → Bool} {lo lo2 : Int} {n n2 : Nat} (h : ∀ k, (lo ≤ k ∧ k < lo + n ∧ p k = true) ↔ (lo2 ≤ k ∧ k < lo2 + n2)) : ((rngI lo n).filter T).filter p = (rngI lo2 n2).filter T := by
  refine lt_uniq (((rngI_lt _ _).filter _).filter _) ((rngI_lt _ _).filter _) fun k => ?_
  rw [List.mem_filter, List.mem_filter, List.mem_filter, mem_rngI, mem_rngI]
  constructor
  · rintro ⟨⟨h1, h2⟩, h3⟩
    exact ⟨(h k).mp ⟨h1.1, h1.2, h3⟩, h2⟩
  · rintro ⟨h1, h2⟩
    have z := (h k).mpr h1
    exact ⟨⟨⟨z.1, z.2.1⟩, h2⟩, z.2.2⟩
/-- what goes round by one turn goes round by all its multiples -/
theorem Rs.per_dvd {a : Rs} {L : Int} (h : a.turn ∣ L) (h0 : 0 < L) (ht : 0 < a.turn) : ∀ n, a.first ≤ n → a.has (n + L) = a.has n := fun n hn => by
  rw [Rs.hasP (by omega), Rs.hasP hn]
  exact Rs.per_any a.perP (by obtain ⟨k, rfl⟩ := h; rw [Int.add_mul_emod_self_left]) ht
theorem mCV_eq {i : Nat} {fs : List (Str × MF)} {ma : MA} {en : En} {st : Sto} {nm : Str} {g : MF} (h : en[i]? = some (some (.fn nm))) (hg : fs.lookup nm = some g) : mCV i fs ma en st = (ma en st).bind fun p => g p.1 p.2 := by
  unfold mCV
  rw [h]
  dsimp only
  rw [hg]
  rfl
end My


namespace My
open PySem PySem.Spec PyProof.Rows L2
/-! ### two forms compared -/
theorem toPys_ints : ∀ ns : List Int, toPys (ns.map D.int) = some (ns.map PyData.int)
  | [] => rfl
  | b :: bs => by
    rw [List.map_cons, toPys, toPy, b_some, toPys_ints bs]
    rfl
theorem canLay_ints : ∀ ns : List Int, PyData.canLayAll0 (ns.map PyData.int) = true
  | [] => by rw [List.map_nil, PyData.canLayAll0]
  | b :: bs => by
    rw [List.map_cons, PyData.canLayAll0, canLay_ints bs, PyData.canLay0]
    rfl
theorem depth_ints : ∀ ns : List Int, PyData.depthAll (ns.map PyData.int) = 0
  | [] => by rw [List.map_nil, PyData.depthAll]
  | b :: bs => by
    rw [List.map_cons, PyData.depthAll, depth_ints bs, PyData.depth]
    rfl
theorem eqv_ints : ∀ as bs : List Int, PyData.eqvAll (as.map PyData.int) (bs.map PyData.int) = decide (as = bs)
  | [], [] => by rw [List.map_nil, PyData.eqvAll]; rfl
  | [], b :: bs => by rw [List.map_nil, List.map_cons, PyData.eqvAll]; rfl
  | a :: as, [] => by rw [List.map_nil, List.map_cons, PyData.eqvAll]; rfl
  | a :: as, b :: bs => by
    rw [List.map_cons, List.map_cons, PyData.eqvAll, eqv_ints as bs, PyData.eqv]
    rw [Bool.eq_iff_iff]
    simp
def eqR (a b : Rs) : Bool := decide (a.few = b.few) && (decide (a.first = b.first) && (decide (a.turn = b.turn) && decide (a.rests = b.rests)))
theorem eqR_iff {a b : Rs} : eqR a b = true ↔ a = b := by
  unfold eqR
  cases a
  cases b
  simp
def pyR (a : Rs) : PyData := .tuple [.tuple (a.few.map .int), .int a.first, .int a.turn, .tuple (a.rests.map .int)]
theorem toPy_rs (a : Rs) : toPy a.d = some (pyR a) := by
  unfold Rs.d pyR
  rw [toPy, toPys, toPy, toPys_ints, toPys, toPys, toPys, toPy, toPy, toPy, toPys_ints, toPys]
  rfl
theorem shaped_rs (a : Rs) : SeqAt.shaped (pyR a) = true := by
  unfold SeqAt.shaped pyR
  simp only [PyData.canLay0, PyData.canLayAll0, canLay_ints, PyData.depth, PyData.depthAll, depth_ints]
  rfl
theorem eqv_rs (a b : Rs) : PyData.eqv (pyR a) (pyR b) = eqR a b := by
  unfold pyR
  simp only [PyData.eqv, PyData.eqvAll, eqv_ints, Bool.and_true]
  rfl
theorem fEq_rs (a b : Rs) (st : Sto) : fEq a.d b.d st = some (.bl (eqR a b), st) := by
  have d1 : ∀ a : Rs, dat a.d st = some (pyR a) := fun a => by
    rw [← toPy_rs a]
    unfold dat Rs.d
    rfl
  have e : eqD a.d b.d st = (dat a.d st).bind fun p => (dat b.d st).bind fun q => if SeqAt.shaped p = true ∧ SeqAt.shaped q = true then some (PyData.eqv p q) else none := by
    unfold eqD Rs.d
    rfl
  unfold fEq
  rw [e, d1, b_some, d1, b_some, if_pos ⟨shaped_rs _, shaped_rs _⟩, eqv_rs]
  rfl
theorem per_win {a : Rs} {f t l : Int} (ht : 0 < t) (hp : Per a.P t) (h : ∀ m, f ≤ m → m < f + t → a.P (m + l) = a.P m) : Per a.P l := fun n => by
  obtain ⟨m, h1, h2, h3⟩ := win_rep (f := f) ht n
  have e : (m + l) % t = (n + l) % t := by
    rw [Int.add_emod, h3, ← Int.add_emod]
  rw [← Rs.per_any hp h3 ht, ← Rs.per_any hp e ht]
  exact h m h1 h2
theorem winC {T : Int → Bool} {b t : Int} (ht : 0 < t) (hT : ∀ n, b ≤ n → T (n + t) = T n) {f l : Int} (f0 : 0 ≤ f) (l0 : 0 < l) (lt : t % l = 0) (hl : Per (winR T b t).P l) (hmin : ∀ c, 0 < c → c < l → t % c = 0 → ¬ Per (winR T b t).P c)
    (hf : ∀ n, f ≤ n → n < b → T n = (winR T b t).P n) (he : 0 < f → T (f - 1) ≠ (winR T b t).P (f - 1)) : (winR T f l).Canon ∧ ∀ n, 0 ≤ n → (winR T f l).has n = T n := by
  have q : ∀ n, f ≤ n → T n = (winR T b t).P n := fun n hn => by
    by_cases c : n < b
    · exact hf n hn c
    · exact (winR_P ht hT (by omega)).symm
  have hT2 : ∀ n, f ≤ n → T (n + l) = T n := fun n hn => by rw [q n hn, q (n + l) (by omega), hl]
  have hP : ∀ n, (winR T f l).P n = (winR T b t).P n := per_same (f := f) l0 l0 (winR T f l).perP hl fun n h1 _ => (winR_P l0 hT2 h1).trans (q n h1)
  refine ⟨⟨winR_wf f0 l0, fun c c0 c1 c2 hc => hmin c c0 c1 ?_ fun n => ?_, fun h => ?_⟩, fun n h0 => winR_has f0 l0 hT2 h0⟩
  · exact Int.emod_eq_zero_of_dvd (Int.dvd_trans (Int.dvd_of_emod_eq_zero c2) (Int.dvd_of_emod_eq_zero lt))
  · rw [← hP, ← hP]
    exact hc n
  · have h : 0 < f := h
    show decide (f - 1 ∈ (rngI 0 f.toNat).filter T) ≠ (winR T f l).P (f - 1)
    rw [hP]
    have e : decide (f - 1 ∈ (rngI 0 f.toNat).filter T) = T (f - 1) := by
      rw [Bool.eq_iff_iff, decide_eq_true_eq, List.mem_filter, mem_rngI]
      exact ⟨fun h => h.2, fun z => ⟨by omega, z⟩⟩
    rw [e]
    exact he h
theorem atI_rng {α : Type} (g : Int → α) {lo k : Int} {n : Nat} (h0 : 0 ≤ k) (h : k < n) : atI ((rngI lo n).map g) k = some (g (lo + k)) := by
  rw [atI_map, atI_nat h0 (by rw [length_rngI]; exact h)]
  unfold rngI
  simp only [List.getElem_map, List.getElem_range, Option.map_some]
  rw [show ((k.toNat : Nat) : Int) = k by omega]
theorem atI_4 {α : Type} (x y z u v : α) (l : List α) : atI (x :: y :: z :: u :: v :: l) 4 = some v := atI_nat (by omega) (by simp; omega)
/-- a set that ends, by its truths below b -/
def endR (T : Int → Bool) (b : Int) : Rs := ⟨(rngI 0 b.toNat).filter T, match ((rngI 0 b.toNat).filter T).getLast? with
  | some k => k + 1
  | none => 0, 1, []⟩
theorem last_top : ∀ {l : List Int} {k : Int}, l.Pairwise (· < ·) → l.getLast? = some k → k ∈ l ∧ ∀ m ∈ l, m ≤ k
  | [], k, _, h => by cases h
  | [x], k, _, h => by
    cases h
    exact ⟨List.mem_cons_self .., fun m hm => by rcases List.mem_cons.mp hm with rfl | z; exact Int.le_refl _; cases z⟩
  | x :: y :: r, k, hp, h => by
    obtain ⟨h1, h2⟩ := List.pairwise_cons.mp hp
    rw [List.getLast?_cons_cons] at h
    obtain ⟨a1, a2⟩ := last_top h2 h
    refine ⟨List.mem_cons_of_mem _ a1, fun m hm => ?_⟩
    rcases List.mem_cons.mp hm with rfl | z
    · have := h1 k a1
      omega
    · exact a2 m z
theorem endR_ok {T : Int → Bool} {b : Int} (hT : ∀ n, b ≤ n → T n = false) : (endR T b).Canon ∧ (∀ n, 0 ≤ n → (endR T b).has n = T n) ∧ (endR T b).first ≤ (b.toNat : Int) := by
  have hs := (rngI_lt 0 b.toNat).filter T
  have mem : ∀ k, k ∈ (rngI 0 b.toNat).filter T ↔ 0 ≤ k ∧ T k = true := fun k => by
    rw [List.mem_filter, mem_rngI]
    constructor
    · rintro ⟨h1, h2⟩
      exact ⟨h1.1, h2⟩
    · rintro ⟨h1, h2⟩
      refine ⟨⟨h1, ?_⟩, h2⟩
      by_cases c : b ≤ k
      · rw [hT k c] at h2; cases h2
      · omega
  unfold endR
  cases hl : ((rngI 0 b.toNat).filter T).getLast? with
  | none =>
    have e := List.getLast?_eq_none_iff.mp hl
    dsimp only
    rw [e]
    refine ⟨noneR_canon, fun n h0 => ?_, by omega⟩
    have z := noneR_has n
    show noneR.has n = _
    rw [z]
    cases hh : T n with
    | false => rfl
    | true => have := (mem n).mpr ⟨h0, hh⟩; rw [e] at this; cases this
  | some k =>
    obtain ⟨a1, a2⟩ := last_top hs hl
    have k0 := (mem k).mp a1
    have kb := mem_rngI.mp (List.mem_filter.mp a1).1
    dsimp only
    refine ⟨canon_fin hs (fun m hm => ⟨((mem m).mp hm).1, by have := a2 m hm; omega⟩) (by omega) (fun _ => by rw [show k + 1 - 1 = k by omega]; exact a1), fun n h0 => ?_, by omega⟩
    by_cases c : n < k + 1
    · rw [Rs.has_lo (a := ⟨_, k + 1, 1, []⟩) c, Bool.eq_iff_iff, decide_eq_true_eq]
      exact (mem n).trans ⟨fun h => h.2, fun h => ⟨h0, h⟩⟩
    · rw [Rs.hasP (a := ⟨_, k + 1, 1, []⟩) (by show k + 1 ≤ n; omega)]
      show decide (n % 1 ∈ ([] : List Int)) = _
      cases hh : T n with
      | false => simp
      | true => have := a2 n ((mem n).mpr ⟨h0, hh⟩); omega
end My


namespace My
open PySem PySem.Spec PyProof.Rows L2
/-! ### rows of truths as lists -/
def bl (T : Int → Bool) (lo : Int) (n : Nat) : List D := ((rngI lo n).map T).map D.bl
theorem bl_len (T : Int → Bool) (lo : Int) (n : Nat) : (bl T lo n).length = n := by
  unfold bl
  rw [List.length_map, List.length_map, length_rngI]
theorem atI_bl {T : Int → Bool} {lo k : Int} {n : Nat} (h0 : 0 ≤ k) (h : k < n) : atI (bl T lo n) k = some (.bl (T (lo + k))) := by
  unfold bl
  rw [List.map_map, atI_rng (D.bl ∘ T) h0 h]
  rfl
theorem rngI_add (lo : Int) (m n : Nat) : rngI lo (m + n) = rngI lo m ++ rngI (lo + m) n := by
  unfold rngI
  rw [List.range_add, List.map_append, List.map_map]
  congr 1
  refine List.map_congr_left fun i _ => ?_
  show lo + ((m + i : Nat) : Int) = lo + (m : Int) + (i : Int)
  omega
theorem rngI_drop {lo : Int} {n k : Nat} (h : k ≤ n) : (rngI lo n).drop k = rngI (lo + k) (n - k) := by
  obtain ⟨m, rfl⟩ : ∃ m, n = k + m := ⟨n - k, by omega⟩
  rw [rngI_add, List.drop_left' (length_rngI _ _), Nat.add_sub_cancel_left]
theorem rngI_take {lo : Int} {n k : Nat} (h : k ≤ n) : (rngI lo n).take k = rngI lo k := by
  obtain ⟨m, rfl⟩ : ∃ m, n = k + m := ⟨n - k, by omega⟩
  rw [rngI_add, List.take_left' (length_rngI _ _)]
theorem rngI_shift (lo : Int) (n : Nat) : rngI lo n = (rngI 0 n).map fun k => lo + k := by
  unfold rngI
  rw [List.map_map]
  refine List.map_congr_left fun i _ => ?_
  show lo + (i : Int) = lo + (0 + (i : Int))
  omega
theorem bl_drop {T : Int → Bool} {lo : Int} {n k : Nat} (h : k ≤ n) : (bl T lo n).drop k = bl T (lo + k) (n - k) := by
  unfold bl
  rw [← List.map_drop, ← List.map_drop, rngI_drop h]
theorem bl_take {T : Int → Bool} {lo : Int} {n k : Nat} (h : k ≤ n) : (bl T lo n).take k = bl T lo k := by
  unfold bl
  rw [← List.map_take, ← List.map_take, rngI_take h]
theorem bl_congr {T S : Int → Bool} {lo : Int} {n : Nat} (h : ∀ k, lo ≤ k → k < lo + n → T k = S k) : bl T lo n = bl S lo n := by
  unfold bl
  congr 1
  refine List.map_congr_left fun k hk => ?_
  have := mem_rngI.mp hk
  exact h k this.1 this.2
theorem cut_drop (ds : List D) {k : Int} (h : 0 ≤ k) : My.cutD ds (some k) none = ds.drop k.toNat := by
  unfold My.cutD HT.sIx
  dsimp only
  rw [if_neg (by omega), List.take_of_length_le (by rw [List.length_drop]; exact Nat.le_refl _)]
  by_cases hk : k.toNat ≤ ds.length
  · rw [Nat.min_eq_left hk]
  · rw [Nat.min_eq_right (by omega), List.drop_length, List.drop_eq_nil_of_le (by omega)]
theorem cut_mid (ds : List D) {a c : Int} (h0 : 0 ≤ a) (h1 : a ≤ c) (h2 : c ≤ ds.length) : My.cutD ds (some a) (some c) = (ds.drop a.toNat).take (c - a).toNat := by
  unfold My.cutD HT.sIx
  dsimp only
  rw [if_neg (by omega), if_neg (by omega), Nat.min_eq_left (by omega), Nat.min_eq_left (by omega)]
  congr 1
  omega
theorem toPys_bools : ∀ bs : List Bool, toPys (bs.map D.bl) = some (bs.map PyData.bool)
  | [] => rfl
  | b :: bs => by
    rw [List.map_cons, toPys, toPy, b_some, toPys_bools bs]
    rfl
theorem canLay_bools : ∀ bs : List Bool, PyData.canLayAll0 (bs.map PyData.bool) = true
  | [] => by rw [List.map_nil, PyData.canLayAll0]
  | b :: bs => by
    rw [List.map_cons, PyData.canLayAll0, canLay_bools bs, PyData.canLay0]
    rfl
theorem depth_bools : ∀ bs : List Bool, PyData.depthAll (bs.map PyData.bool) = 0
  | [] => by rw [List.map_nil, PyData.depthAll]
  | b :: bs => by
    rw [List.map_cons, PyData.depthAll, depth_bools bs, PyData.depth]
    rfl
theorem shaped_bools (bs : List Bool) : SeqAt.shaped (.list (bs.map PyData.bool)) = true := by
  unfold SeqAt.shaped
  rw [PyData.canLay0, canLay_bools, PyData.depth, depth_bools]
  rfl
theorem eqv_bools : ∀ as bs : List Bool, PyData.eqvAll (as.map PyData.bool) (bs.map PyData.bool) = decide (as = bs)
  | [], [] => by rw [List.map_nil, PyData.eqvAll]; rfl
  | [], b :: bs => by rw [List.map_nil, List.map_cons, PyData.eqvAll]; rfl
  | a :: as, [] => by rw [List.map_nil, List.map_cons, PyData.eqvAll]; rfl
  | a :: as, b :: bs => by
    rw [List.map_cons, List.map_cons, PyData.eqvAll, eqv_bools as bs, PyData.eqv]
    rw [Bool.eq_iff_iff]
    simp
theorem fEq_bools {as bs : List Bool} {st : Sto} : fEq (.lst (as.map D.bl)) (.lst (bs.map D.bl)) st = some (.bl (decide (as = bs)), st) := by
  have d2 : ∀ bs : List Bool, dat (.lst (bs.map D.bl)) st = some (.list (bs.map PyData.bool)) := fun bs => by
    unfold dat
    dsimp only
    rw [toPy, toPys_bools]
    rfl
  unfold fEq eqD
  dsimp only
  rw [d2, b_some, d2, b_some, if_pos ⟨shaped_bools _, shaped_bools _⟩, PyData.eqv, eqv_bools]
  rfl
theorem inD_bools (ms : List Bool) : inD (.bl true) (ms.map D.bl) = decide (true ∈ ms) := by
  unfold inD
  rw [List.any_map, Bool.eq_iff_iff]
  simp [eqF]
theorem flat_bools (ms : List Bool) : (ms.map D.bl).all flatD = true := by
  rw [List.all_map]
  exact List.all_eq_true.mpr fun _ _ => rfl
theorem fIn_bools (neg : Bool) (ms : List Bool) (st : Sto) : fIn neg (.bl true) (.lst (ms.map D.bl)) st = some (.bl (if neg then !decide (true ∈ ms) else decide (true ∈ ms)), st) := by
  unfold fIn
  rw [look_lst, b_some, if_pos ⟨rfl, flat_bools ms⟩, inD_bools]
theorem fMaxL_ints (ns : List Int) (m : Int) (h : ns.max? = some m) (st : Sto) : fMaxL [.lst (ns.map .int)] st = some (.int m, st) := by
  show ((lookL (.lst (ns.map .int)) st).bind fun es => (intsOf es).bind fun ns => ns.max?.map fun m => (D.int m, st)) = _
  rw [lookL_lst, b_some, intsOf_map, b_some, h]
  rfl
theorem ixN_nat {n : Nat} {k : Int} (h0 : 0 ≤ k) (h : k < n) : ixN n k = some k.toNat := by
  unfold ixN
  rw [if_pos h0, if_pos h]
theorem bl_set {T : Int → Bool} {n : Nat} {m : Int} (h0 : 0 ≤ m) (h : m < n) : (bl T 0 n).set m.toNat (.bl true) = bl (fun k => T k || decide (k = m)) 0 n := by
  refine List.ext_getElem (by rw [List.length_set, bl_len, bl_len]) fun i h1 h2 => ?_
  rw [bl_len] at h2
  rw [List.getElem_set]
  have g : ∀ S : Int → Bool, ∀ h, (bl S 0 n)[i]'h = .bl (S i) := fun S h => by
    unfold bl rngI
    simp
  rw [g, g]
  by_cases e : m.toNat = i
  · rw [if_pos e, show decide ((i : Int) = m) = true from decide_eq_true (by omega)]
    simp
  · rw [if_neg e, show decide ((i : Int) = m) = false from decide_eq_false (by omega)]
    simp
theorem top_get (st : Sto) (x : SO) : (st ++ [x])[st.length]? = some x := by simp
theorem top_set (st : Sto) (x y : SO) : (st ++ [x]).set st.length y = st ++ [y] := by simp
theorem settle_top (st : Sto) (x : SO) (d : D) (h : clo st.length d = true) : My.settle st d (st ++ [x]) = (d, st) := by
  unfold My.settle
  rw [if_neg (by simp), if_pos ⟨h, fun i hi => .inl (List.getElem?_append_left hi)⟩]
  simp
theorem clos_bl (T : Int → Bool) (lo : Int) (m n : Nat) : clos m (bl T lo n) = true := by
  unfold bl
  generalize (rngI lo n).map T = bs
  induction bs with
  | nil => rfl
  | cons b bs ih =>
    rw [List.map_cons]
    unfold clos
    rw [ih]
    rfl
theorem bl_app (T : Int → Bool) (lo : Int) (m n : Nat) : bl T lo m ++ bl T (lo + m) n = bl T lo (m + n) := by
  unfold bl
  rw [← List.map_append, ← List.map_append, ← rngI_add]
/-- k pieces one behind the other -/
theorem bl_rep {T : Int → Bool} {lo t : Int} (ht : 0 < t) (hT : ∀ n, lo ≤ n → T (n + t) = T n) : ∀ k : Nat, (List.replicate k (bl T lo t.toNat)).flatten = bl T lo (k * t.toNat)
  | 0 => by
    rw [Nat.zero_mul]
    rfl
  | k + 1 => by
    rw [List.replicate_succ', List.flatten_append, bl_rep ht hT k, List.flatten_cons, List.flatten_nil, List.append_nil]
    have e : bl T lo t.toNat = bl T (lo + (k * t.toNat : Nat)) t.toNat := by
      unfold bl
      rw [rngI_shift lo, rngI_shift (lo + _)]
      simp only [List.map_map]
      refine List.map_congr_left fun j hj => ?_
      have := mem_rngI.mp hj
      show D.bl (T (lo + j)) = D.bl (T (lo + ((k * t.toNat : Nat) : Int) + j))
      congr 1
      have z := far_per ht hT k (lo + j) (by omega)
      rw [← z]
      congr 1
      have e1 : ((k * t.toNat : Nat) : Int) = (k : Int) * t := by
        rw [Int.natCast_mul]
        congr 1
        omega
      rw [e1, Int.mul_comm]
      omega
    rw [e, bl_app]
    congr 1
    rw [Nat.succ_mul]
/-- turned by l it is the same: it goes round by l -/
theorem turn_per {W : Rs} {T : Int → Bool} {b t l : Int} (ht : 0 < t) (hW : ∀ n, b ≤ n → W.P n = T n) (hWt : Per W.P t) (l0 : 0 < l) (l1 : l ≤ t) :
    ((rngI (b + l.toNat) (t.toNat - l.toNat)).map T ++ (rngI b l.toNat).map T = (rngI b t.toNat).map T) ↔ Per W.P l := by
  have e1 : (rngI (b + l.toNat) (t.toNat - l.toNat)).map T ++ (rngI b l.toNat).map T = (rngI 0 t.toNat).map fun k => W.P (b + k + l) := by
    have es : t.toNat = (t.toNat - l.toNat) + l.toNat := by omega
    conv => rhs; rw [es, rngI_add, List.map_append]
    congr 1
    · rw [rngI_shift (b + l.toNat), List.map_map]
      refine List.map_congr_left fun k hk => ?_
      have := mem_rngI.mp hk
      show T (b + (l.toNat : Int) + k) = W.P (b + k + l)
      rw [← hW _ (by omega)]
      congr 1
      omega
    · rw [rngI_shift b, rngI_shift (0 + _), List.map_map, List.map_map]
      refine List.map_congr_left fun k hk => ?_
      have := mem_rngI.mp hk
      show T (b + k) = W.P (b + (0 + ((t.toNat - l.toNat : Nat) : Int) + k) + l)
      rw [← hW _ (by omega), ← hWt (b + k)]
      congr 1
      omega
  have e2 : (rngI b t.toNat).map T = (rngI 0 t.toNat).map fun k => W.P (b + k) := by
    rw [rngI_shift b, List.map_map]
    refine List.map_congr_left fun k hk => ?_
    have := mem_rngI.mp hk
    show T (b + k) = _
    rw [hW _ (by omega)]
  rw [e1, e2]
  constructor
  · intro h
    have h2 := List.map_inj_left.mp h
    refine per_win (f := b) ht hWt fun m h1 h3 => ?_
    have z := h2 (m - b) (mem_rngI.mpr (by omega))
    rw [show b + (m - b) + l = m + l by omega, show b + (m - b) = m by omega] at z
    exact z
  · intro h
    exact List.map_congr_left fun k _ => h (b + k)
end My


namespace My
open PySem PySem.Spec PyProof.Rows L2
theorem fEq_str (x y : Str) (st : Sto) : fEq (.str x) (.str y) st = some (.bl (decide (x = y)), st) := rfl
theorem fNe_str (x y : Str) (st : Sto) : fNe (.str x) (.str y) st = some (.bl (!decide (x = y)), st) := rfl
theorem fIsN_str (neg : Bool) (x : Str) (st : Sto) : fIsN neg (.str x) .non st = some (.bl neg, st) := by cases neg <;> rfl
theorem fIsN_bl (neg : Bool) (x : Bool) (st : Sto) : fIsN neg (.bl x) .non st = some (.bl neg, st) := by cases neg <;> rfl
theorem fIsN_lst (neg : Bool) (ds : List D) (st : Sto) : fIsN neg (.lst ds) .non st = some (.bl neg, st) := by cases neg <;> rfl
theorem fIsi_si (i : Str) (st : Sto) : fIsi [.str i, .ty "int"] st = some (.bl false, st) := rfl
theorem fIsi_ss (i : Str) (st : Sto) : fIsi [.str i, .ty "str"] st = some (.bl true, st) := rfl
theorem fIsi_sb (i : Str) (st : Sto) : fIsi [.str i, .ty "bool"] st = some (.bl false, st) := rfl
theorem fIsi_st (i : Str) (st : Sto) : fIsi [.str i, .ty "tuple"] st = some (.bl false, st) := rfl
theorem fIsB_non (neg c : Bool) (st : Sto) : fIsB neg .non (.bl c) st = some (.bl neg, st) := by cases neg <;> rfl
theorem fIsB_int (neg c : Bool) (i : Int) (st : Sto) : fIsB neg (.int i) (.bl c) st = some (.bl neg, st) := by cases neg <;> rfl
theorem fIsB_str (neg c : Bool) (i : Str) (st : Sto) : fIsB neg (.str i) (.bl c) st = some (.bl neg, st) := by cases neg <;> rfl
theorem fIsB_tup (neg c : Bool) (i : List D) (st : Sto) : fIsB neg (.tup i) (.bl c) st = some (.bl neg, st) := by cases neg <;> rfl
theorem fIsB_bl (c i : Bool) (st : Sto) : fIsB false (.bl i) (.bl c) st = some (.bl (i == c), st) := rfl
theorem fAdd_str (mu : Bool) (x y : Str) (st : Sto) : fAdd mu (.str x) (.str y) st = if x.length + y.length ≤ sizeLine then some (.str (x ++ y), st) else none := rfl
theorem fIxA_str (z : Str) (i : Int) (st : Sto) : fIxA (.str z) (.int i) st = if z.length ≤ sizeLine then (atI z.cps.toList i).map fun c => (.str ⟨#[c]⟩, st) else none := rfl
theorem fLen_fro (ds : List D) (st : Sto) : fLen [.fro ds] st = some (.int ds.length, st) := rfl
theorem fTuple_loc (n : Nat) (st : Sto) : fTuple [.loc n] st = (look (.loc n) st).map fun es => (.tup es, st) := rfl

/-! ### lists over any letters -/
theorem lcL_A {α : Type} {s : Src} {T : Tg} {tt : MB} {te : ME} {en : En} {st : Sto} (f : α → D) (p : α → Bool) (g : α → D) (hok : s.ok st) : ∀ (xs : List α) (acc : List D), acc.length + xs.length < sizeLine →
    (∀ x ∈ xs, ∃ en', setTg T (f x) en = some en' ∧ tt en' st = some (p x, st) ∧ (p x = true → te en' st = some (g x, st))) → lcL s T tt te en (xs.map f) acc st = some (acc ++ (xs.filter p).map g, st)
  | [], acc, _, _ => by
    show lcL s T tt te en [] acc st = _
    unfold lcL
    rw [if_pos hok]
    simp
  | d :: ds, acc, hl, h => by
    obtain ⟨en', h1, h2, h3⟩ := h d (by simp)
    rw [List.map_cons]
    unfold lcL
    rw [if_pos hok, h1]
    show ((tt en' st).bind _) = _
    rw [h2]
    rw [List.length_cons] at hl
    cases hp : p d with
    | true =>
      show ((te en' st).bind _) = _
      rw [h3 hp]
      show (if acc.length < sizeLine then lcL s T tt te en (ds.map f) (acc ++ [g d]) st else none) = _
      rw [if_pos (by omega), lcL_A f p g hok ds _ (by rw [List.length_append]; simp only [List.length_cons, List.length_nil]; omega) fun d' hd' => h d' (List.mem_cons_of_mem _ hd'), List.filter_cons_of_pos hp, List.map_cons, List.append_assoc]
      rfl
    | false =>
      show lcL s T tt te en (ds.map f) acc st = _
      rw [lcL_A f p g hok ds acc (by omega) fun d' hd' => h d' (List.mem_cons_of_mem _ hd'), List.filter_cons_of_neg (by rw [hp]; decide)]
theorem lc_A {α : Type} {mu : Bool} {mi : MI} {T : Tg} {tt : MB} {te : ME} {vs : List Nat} {en : En} {st st1 : Sto} {c : Option Nat} {xs : List α} {f : α → D} (hm : mi en st = some (⟨xs.map f, c⟩, st1)) (p : α → Bool) (g : α → D) (hok : (⟨xs.map f, c⟩ : Src).ok st1) (hl : xs.length < 10000000)
    (h : ∀ x ∈ xs, ∃ en', setTg T (f x) (wipeE en vs) = some en' ∧ tt en' st1 = some (p x, st1) ∧ (p x = true → te en' st1 = some (g x, st1))) : mLc mu mi T tt te vs en st = some (alloc mu ((xs.filter p).map g) st1) := by
  unfold mLc
  rw [hm]
  show ((lcL _ T tt te (wipeE en vs) (xs.map f) [] st1).map _) = _
  rw [lcL_A f p g hok xs [] (by have := szlt hl; simpa using this) h]
  rfl
theorem findL_A {α : Type} {zs : List D} {T : Tg} {b : MS} {st : Sto} {f : α → D} (p : α → Bool) (g : α → D) (E : En → Prop) : ∀ (xs : List α) (en : En), E en →
    (∀ x ∈ xs, ∀ en, E en → ∃ en', setTg T (f x) en = some en' ∧ (p x = true → b en' st = some (.rt (g x), st)) ∧ (p x = false → ∃ en2, b en' st = some (.nx en2, st) ∧ E en2)) →
    (∃ en2, xs.find? p = none ∧ forL ⟨zs, none⟩ T b (xs.map f) en st = some (.nx en2, st) ∧ E en2) ∨ ∃ x, xs.find? p = some x ∧ forL ⟨zs, none⟩ T b (xs.map f) en st = some (.rt (g x), st)
  | [], en, h0, _ => .inl ⟨en, rfl, forL_nil ok_none, h0⟩
  | x :: xs, en, h0, step => by
    obtain ⟨en', h1, h2, h3⟩ := step x (by simp) en h0
    cases hp : p x with
    | true => exact .inr ⟨x, by rw [List.find?_cons, hp], by rw [List.map_cons]; exact forL_rt ok_none h1 (h2 hp)⟩
    | false =>
      obtain ⟨en2, h4, h5⟩ := h3 hp
      rw [List.find?_cons, hp, List.map_cons, forL_nx ok_none h1 h4]
      exact findL_A p g E xs en2 h5 fun y hy => step y (List.mem_cons_of_mem _ hy)
theorem find_A {α : Type} {mi : MI} {T : Tg} {b : MS} {en : En} {st st1 : Sto} {xs : List α} {f : α → D} (hm : mi en st = some (⟨xs.map f, none⟩, st1)) (p : α → Bool) (g : α → D) (E : En → Prop) (h0 : E en)
    (step : ∀ x ∈ xs, ∀ en, E en → ∃ en', setTg T (f x) en = some en' ∧ (p x = true → b en' st1 = some (.rt (g x), st1)) ∧ (p x = false → ∃ en2, b en' st1 = some (.nx en2, st1) ∧ E en2)) :
    (∃ en2, xs.find? p = none ∧ mFor mi T b en st = some (.nx en2, st1) ∧ E en2) ∨ ∃ x, xs.find? p = some x ∧ mFor mi T b en st = some (.rt (g x), st1) := by
  unfold mFor
  rw [hm]
  exact findL_A p g E xs en h0 step
theorem foldL_A {α β : Type} {zs : List D} {T : Tg} {b : MS} {f : α → D} (F : β → α → β) (I : β → En → Sto → Prop) : ∀ (xs : List α) (a : β) (en : En) (st : Sto), I a en st →
    (∀ x ∈ xs, ∀ a en st, I a en st → ∃ en' en2 st2, setTg T (f x) en = some en' ∧ b en' st = some (.nx en2, st2) ∧ I (F a x) en2 st2) →
    ∃ en2 st2, forL ⟨zs, none⟩ T b (xs.map f) en st = some (.nx en2, st2) ∧ I (xs.foldl F a) en2 st2
  | [], a, en, st, h0, _ => ⟨en, st, forL_nil ok_none, h0⟩
  | x :: xs, a, en, st, h0, step => by
    obtain ⟨en', en2, st2, h1, h2, h3⟩ := step x (by simp) a en st h0
    rw [List.map_cons, forL_nx ok_none h1 h2]
    exact foldL_A F I xs (F a x) en2 st2 h3 fun y hy => step y (List.mem_cons_of_mem _ hy)
/-- a for that only goes on, by what is made so far -/
theorem fold_A {α β : Type} {mi : MI} {T : Tg} {b : MS} {en : En} {st st1 : Sto} {xs : List α} {f : α → D} (hm : mi en st = some (⟨xs.map f, none⟩, st1)) (F : β → α → β) (I : β → En → Sto → Prop) (a : β) (h0 : I a en st1)
    (step : ∀ x ∈ xs, ∀ a en st, I a en st → ∃ en' en2 st2, setTg T (f x) en = some en' ∧ b en' st = some (.nx en2, st2) ∧ I (F a x) en2 st2) : ∃ en2 st2, mFor mi T b en st = some (.nx en2, st2) ∧ I (xs.foldl F a) en2 st2 := by
  unfold mFor
  rw [hm]
  exact foldL_A F I xs a en st1 h0 step
theorem foldl_flat {α β : Type} (k : α → List β) : ∀ (xs : List α) (a : List β), xs.foldl (fun a x => a ++ k x) a = a ++ xs.flatMap k
  | [], a => by simp
  | x :: xs, a => by
    rw [List.foldl_cons, foldl_flat k xs, List.flatMap_cons, List.append_assoc]

/-! ### what is closed -/
theorem clos_map {α : Type} (n : Nat) (f : α → D) (h : ∀ x, clo n (f x) = true) : ∀ xs : List α, clos n (xs.map f) = true
  | [] => rfl
  | x :: xs => by
    show (clo n (f x) && clos n (xs.map f)) = true
    rw [h x, clos_map n f h xs]
    rfl
/-- the store falls back to what it was: its new objects are not in the answer -/
theorem settle_ext {st st' : Sto} {d : D} (h : clo st.length d = true) (e : ∃ more, st' = st ++ more) : My.settle st d st' = (d, st) := by
  obtain ⟨more, rfl⟩ := e
  unfold My.settle
  by_cases hl : (st ++ more).length ≤ st.length
  · rw [if_pos hl]
    have : more = [] := List.length_eq_zero_iff.mp (by rw [List.length_append] at hl; omega)
    rw [this, List.append_nil]
  · rw [if_neg hl, if_pos ⟨h, fun i hi => .inl (List.getElem?_append_left hi)⟩]
    simp
theorem mDef_ext {N n : Nat} {b : MS} {ds : List D} {st st' : Sto} {d : D} (hl : ds.length = n) (h : b (ds.map some ++ List.replicate (N - ds.length) none) st = some (.rt d, st')) (hc : clo st.length d = true) (e : ∃ more, st' = st ++ more) : mDef N n b ds st = some (d, st) := by
  unfold mDef
  rw [if_pos hl, h]
  show some (My.settle st d st') = _
  rw [settle_ext hc e]

/-! ### sorted -/
def srt {α : Type} (f : α → D) (xs : List α) : List α := xs.mergeSort fun a b => leD (f a) (f b)
theorem srt_perm {α : Type} (f : α → D) (xs : List α) : (srt f xs).Perm xs := List.mergeSort_perm xs _
theorem sortD_map {α : Type} (f : α → D) (xs : List α) : sortD (xs.map f) = (srt f xs).map f := by
  unfold sortD srt
  exact (List.map_mergeSort (r := fun a b => leD (f a) (f b)) (s := leD) (f := f) fun a _ b _ => rfl).symm
/-- what is asked of what is sorted -/
structure Srt {α : Type} (f : α → D) : Prop where
  py : ∀ x, pyOk (f x) = true
  al : ∀ x y, PySem.W.alike (encD (f x)) (encD (f y)) = true
  tp : (∀ x, tupOk (f x) = true) ∨ ∀ x, atomOk (f x) = true
  dp : ∀ x, (encD (f x)).depth ≤ 60
  ni : ∀ x i, f x ≠ .int i
theorem sortOk_map {α : Type} {f : α → D} (S : Srt f) (xs : List α) : sortOk (xs.map f) = true := by
  unfold sortOk alikeD
  simp only [List.all_map, Bool.and_eq_true, Bool.or_eq_true, List.all_eq_true, Function.comp, decide_eq_true_eq]
  exact ⟨⟨⟨fun x _ => S.py x, fun x _ y _ => S.al x y⟩, S.tp.imp (fun h x _ => h x) fun h x _ => h x⟩, fun x _ => S.dp x⟩
theorem fSortA_eq {α : Type} {f : α → D} (S : Srt f) (mu : Bool) {d : D} {st : Sto} {xs : List α} (h : lookL d st = some (xs.map f)) : fSortA mu [d] st = some (alloc mu ((srt f xs).map f) st) := by
  unfold fSortA
  dsimp only
  rw [h]
  show (match intsOf (xs.map f) with | some ns => some (alloc mu ((sortI ns).map D.int) st) | none => if sortOk (xs.map f) = true then some (alloc mu (sortD (xs.map f)) st) else none) = _
  cases xs with
  | nil =>
    show some (alloc mu ((sortI []).map D.int) st) = _
    unfold sortI srt
    rw [List.mergeSort_nil, List.mergeSort_nil]
    rfl
  | cons x xs =>
    have e : intsOf ((x :: xs).map f) = none := by
      rw [List.map_cons]
      have n := S.ni x
      cases hx : f x with
      | int i => exact absurd hx (n i)
      | _ => rfl
    rw [e]
    dsimp only
    rw [if_pos (sortOk_map S _), sortD_map]
theorem srt_str : Srt D.str := ⟨fun _ => rfl, fun _ _ => rfl, .inr fun _ => rfl, fun x => by
  show (PyData.str x).depth ≤ 60
  rw [PyData.depth] <;> simp, fun x i h => by cases h⟩

/-! ### in, of any depth -/
theorem toPys_map {α : Type} {f : α → D} (h : ∀ x, pyOk (f x) = true) : ∀ xs : List α, toPys (xs.map f) = some (xs.map fun x => encD (f x))
  | [] => rfl
  | x :: xs => by
    have e : toPy (f x) = some (encD (f x)) := by
      obtain ⟨p, hp⟩ := Option.isSome_iff_exists.mp (h x)
      unfold encD
      rw [hp]
      rfl
    rw [List.map_cons]
    unfold toPys
    rw [e, toPys_map h xs]
    rfl
theorem canLay_map {α : Type} {f : α → PyData} : ∀ xs : List α, (∀ x ∈ xs, (f x).canLay0 = true ∧ (f x).depth ≤ 60) → PyData.canLayAll0 (xs.map f) = true ∧ PyData.depthAll (xs.map f) ≤ 60
  | [], _ => by simp [PyData.canLayAll0, PyData.depthAll]
  | x :: xs, h => by
    obtain ⟨h1, h2⟩ := h x (by simp)
    obtain ⟨i1, i2⟩ := canLay_map xs fun y hy => h y (List.mem_cons_of_mem _ hy)
    rw [List.map_cons, PyData.canLayAll0, PyData.depthAll, h1, i1]
    exact ⟨rfl, by omega⟩
theorem fInD_ex {α : Type} {f : α → D} (neg : Bool) {a d : D} {st : Sto} {xs : List α} (h : lookL d st = some (xs.map f)) (hp : ∀ x, pyOk (f x) = true) (hx : ∀ x ∈ xs, (encD (f x)).canLay0 = true ∧ (encD (f x)).depth ≤ 60) (ha : pyOk a = true) (hs : (encD a).canLay0 = true ∧ (encD a).depth ≤ 60) :
    ∃ r, fInD neg a d st = some (.bl r, st) := by
  have e : toPy a = some (encD a) := by
    obtain ⟨p, hp⟩ := Option.isSome_iff_exists.mp ha
    unfold encD
    rw [hp]
    rfl
  obtain ⟨c1, c2⟩ := canLay_map (f := fun x => encD (f x)) xs hx
  unfold fInD
  rw [h, b_some, toPys_map hp, b_some, e, b_some, if_pos]
  · exact ⟨_, rfl⟩
  · unfold SeqAt.shaped
    rw [hs.1, PyData.canLay0, c1]
    simp only [Bool.true_and, decide_eq_true_eq]
    refine ⟨by omega, ?_⟩
    rw [PyData.depth]
    omega
end My


namespace My
open PySem PySem.Spec PyProof.Rows L2
/-! ### what may raise, reckoned -/
theorem lS_o {m : MS} {en : En} {st st' : Sto} {o : Out} (h : m en st = some (o, st')) : lS m en st = some (.o o, st') := by
  unfold lS
  rw [h]
  rfl
theorem lE_o {m : ME} {en : En} {st st' : Sto} {d : D} (h : m en st = some (d, st')) : lE m en st = some (.ok d, st') := by
  unfold lE
  rw [h]
  rfl
theorem seqX_nx {a b : MSx} {en en' : En} {st st' : Sto} (h : a en st = some (.o (.nx en'), st')) : seqX a b en st = b en' st' := by
  unfold seqX
  rw [h]
  rfl
theorem seqX_rt {a b : MSx} {en : En} {st st' : Sto} {d : D} (h : a en st = some (.o (.rt d), st')) : seqX a b en st = some (.o (.rt d), st') := by
  unfold seqX
  rw [h]
  rfl
theorem seqX_ex {a b : MSx} {en en' : En} {st st' : Sto} {x : Ex} (h : a en st = some (.ex en' x, st')) : seqX a b en st = some (.ex en' x, st') := by
  unfold seqX
  rw [h]
  rfl
theorem ifX_t {c : MB} {a b : MSx} {en : En} {st st1 : Sto} (h : c en st = some (true, st1)) : ifX c a b en st = a en st1 := by
  unfold ifX
  rw [h]
  rfl
theorem ifX_f {c : MB} {a b : MSx} {en : En} {st st1 : Sto} (h : c en st = some (false, st1)) : ifX c a b en st = b en st1 := by
  unfold ifX
  rw [h]
  rfl
theorem forX_of {mi : MI} {T : Tg} {b : MSx} {en : En} {st st1 : Sto} {s : Src} (h : mi en st = some (s, st1)) : forX mi T b en st = forLX s T b s.ds en st1 := by
  unfold forX
  rw [h]
  rfl
theorem forLX_nil {s : Src} {T : Tg} {b : MSx} {en : En} {st : Sto} (hok : s.ok st) : forLX s T b [] en st = some (.o (.nx en), st) := by
  unfold forLX
  rw [if_pos hok]
theorem forLX_nx {s : Src} {T : Tg} {b : MSx} {d : D} {r : List D} {en en' en2 : En} {st st2 : Sto} (hok : s.ok st) (h1 : setTg T d en = some en') (h2 : b en' st = some (.o (.nx en2), st2)) : forLX s T b (d :: r) en st = forLX s T b r en2 st2 := by
  rw [forLX, if_pos hok, h1]
  show ((b en' st).bind _) = _
  rw [h2]
  rfl
theorem forLX_ex {s : Src} {T : Tg} {b : MSx} {d : D} {r : List D} {en en' en2 : En} {st st2 : Sto} {x : Ex} (hok : s.ok st) (h1 : setTg T d en = some en') (h2 : b en' st = some (.ex en2 x, st2)) : forLX s T b (d :: r) en st = some (.ex en2 x, st2) := by
  rw [forLX, if_pos hok, h1]
  show ((b en' st).bind _) = _
  rw [h2]
  rfl
theorem mDefX_ext {N n : Nat} {b : MSx} {ds : List D} {st st' : Sto} {d : D} (hl : ds.length = n) (h : b (ds.map some ++ List.replicate (N - ds.length) none) st = some (.o (.rt d), st')) (hc : clo st.length d = true) (e : ∃ more, st' = st ++ more) : mDefX N n b ds st = some (.ok d, st) := by
  unfold mDefX
  rw [if_pos hl, h, b_some]
  dsimp only
  rw [settle_ext hc e]
theorem mDefX_ex {N n : Nat} {b : MSx} {ds : List D} {en' : En} {st st' : Sto} {x : Ex} (hl : ds.length = n) (h : b (ds.map some ++ List.replicate (N - ds.length) none) st = some (.ex en' x, st')) (hc : clos st.length (x.fs.map (·.2)) = true) (e : ∃ more, st' = st ++ more) : mDefX N n b ds st = some (.ex x, st) := by
  unfold mDefX
  rw [if_pos hl, h, b_some]
  dsimp only
  obtain ⟨more, rfl⟩ := e
  unfold settleF
  by_cases hl2 : (st ++ more).length ≤ st.length
  · rw [if_pos hl2]
    have : more = [] := List.length_eq_zero_iff.mp (by rw [List.length_append] at hl2; omega)
    rw [this, List.append_nil]
  · rw [if_neg hl2, if_pos ⟨hc, fun i hi => .inl (List.getElem?_append_left hi)⟩]
    simp
theorem callX_of {f : MFx} {a : MAx} {en : En} {st st1 : Sto} {ds : List D} (h : a en st = some (.ok ds, st1)) : callX f a en st = f ds st1 := by
  unfold callX bindX
  rw [h]
  rfl
theorem consX_of {a : MEx} {r : MAx} {en : En} {st st1 st2 : Sto} {d : D} {ds : List D} (h : a en st = some (.ok d, st1)) (h2 : r en st1 = some (.ok ds, st2)) : consX a r en st = some (.ok (d :: ds), st2) := by
  unfold consX bindX
  rw [h, b_some]
  dsimp only
  rw [h2]
  rfl
theorem nilX_of {en : En} {st : Sto} : nilX en st = some (.ok [], st) := rfl
theorem tryX_o {tab : List (Str × Str × Bool)} {b : MSx} {cs : List XCl} {en : En} {st st1 : Sto} {o : Out} (h : b en st = some (.o o, st1)) : runX (tryX tab b cs) en st = some (o, st1) := by
  unfold runX tryX
  rw [h]
  rfl
theorem tryX_ex {tab : List (Str × Str × Bool)} {b : MSx} {cs : List XCl} {en en' : En} {st st1 st2 : Sto} {x : Ex} {o : Out} (h : b en st = some (.ex en' x, st1)) (h2 : handleX tab cs en' x st1 = some (.o o, st2)) : runX (tryX tab b cs) en st = some (o, st2) := by
  unfold runX tryX
  rw [h, b_some]
  dsimp only
  rw [h2]
  rfl
theorem pureOf_ok {f : MFx} {ds : List D} {st st' : Sto} {d : D} (h : f ds st = some (.ok d, st')) : pureOf f ds st = some (d, st') := by
  unfold pureOf
  rw [h]
  rfl
theorem forL_of {mi : MI} {T : Tg} {b : MS} {en : En} {st st1 : Sto} {s : Src} (h : mi en st = some (s, st1)) : mFor mi T b en st = forL s T b s.ds en st1 := by
  unfold mFor
  rw [h]
  rfl
end My


namespace K21
open PySem PySem.Spec PyProof.Rows L2 My
def topS (i : Nat) : Stmt := PySem.Challenge.pw_moneyheld_k21_fairs.main.body.getD i (.Pass ⟨0, 0, 0, 0⟩)
theorem bt_isinstance : bootBuiltins ("isinstance" : Str) = some (.builtin "isinstance") := by decide +kernel
theorem bt_str : bootBuiltins ("str" : Str) = some (.type "str") := by decide +kernel
theorem bt_len : bootBuiltins ("len" : Str) = some (.builtin "len") := by decide +kernel
theorem bt_all : bootBuiltins ("all" : Str) = some (.builtin "all") := by decide +kernel
theorem bt_int : bootBuiltins ("int" : Str) = some (.type "int") := by decide +kernel
theorem bt_bool : bootBuiltins ("bool" : Str) = some (.type "bool") := by decide +kernel
theorem bt_tuple : bootBuiltins ("tuple" : Str) = some (.type "tuple") := by decide +kernel
theorem bt_enumerate : bootBuiltins ("enumerate" : Str) = some (.type "enumerate") := by decide +kernel
theorem bt_sum : bootBuiltins ("sum" : Str) = some (.builtin "sum") := by decide +kernel
theorem bt_zip : bootBuiltins ("zip" : Str) = some (.type "zip") := by decide +kernel
theorem bt_range : bootBuiltins ("range" : Str) = some (.type "range") := by decide +kernel
theorem bt_sorted : bootBuiltins ("sorted" : Str) = some (.builtin "sorted") := by decide +kernel
theorem bt_ValueError : bootBuiltins ("ValueError" : Str) = some (.type "ValueError") := by decide +kernel
theorem bt_list : bootBuiltins ("list" : Str) = some (.type "list") := by decide +kernel
abbrev s_is_name : Stmt := topS 8
abbrev s_is_integer : Stmt := topS 9
abbrev s_trader_word : Stmt := topS 11
abbrev s_check_fair : Stmt := topS 12
abbrev s_found_holding : Stmt := topS 13
abbrev s_holding_of : Stmt := topS 14
abbrev s_is_start_fair : Stmt := topS 15
abbrev s_total_money : Stmt := topS 16
abbrev s__law_same : Stmt := topS 18
abbrev s__law_draw : Stmt := topS 19
abbrev s__law_words : Stmt := topS 21
abbrev s__law_name : Stmt := topS 20
abbrev s__law_names : Stmt := topS 22
abbrev s__law_is_name : Stmt := topS 23
abbrev s__law_market : Stmt := topS 24
abbrev s__law_fair : Stmt := topS 25
abbrev s__law_due : Stmt := topS 26
abbrev s__law_checked : Stmt := topS 27
abbrev s__law_held : Stmt := topS 28
abbrev s__law_put : Stmt := topS 29
abbrev s__law_no_row : Stmt := topS 30
abbrev s__law_no_name : Stmt := topS 31
abbrev s__law_bent : Stmt := topS 32
abbrev s__law_two : Stmt := topS 33
abbrev s_law : Stmt := topS 34
abbrev s_xBadFair : Stmt := stmtAt (clsBody (topS 2)) 0
theorem sc_xBadFair : NdefX.NScope ["self", "number", "word", "__class__"] ["self", "number", "word"] ["__class__"] (defScope s_xBadFair) := NdefX.nscope_by (by decide +kernel)
abbrev s_xNoSuch : Stmt := stmtAt (clsBody (topS 3)) 0
theorem sc_xNoSuch : NdefX.NScope ["self", "word", "name", "__class__"] ["self", "word", "name"] ["__class__"] (defScope s_xNoSuch) := NdefX.nscope_by (by decide +kernel)
def etab : List (Str × Str × Bool) := [("BadFair", "BadFair", true), ("BadFair", "MarketError", true), ("BadFair", "NoSuch", false), ("NoSuch", "BadFair", false), ("NoSuch", "MarketError", true), ("NoSuch", "NoSuch", true)]
structure Facts (P : Program) (K : PySem.W.Frag) (mg : Str → Option Value) where
  x_BadFair : ExcF P K mg "BadFair" ["number", "word"] ["self", "number", "word"]
  x_NoSuch : ExcF P K mg "NoSuch" ["word", "name"] ["self", "word", "name"]
  k_MarketError : Addr
  gk_MarketError : mg "MarketError" = some (.ref k_MarketError)
  t_MarketError : ClsT K etab "MarketError" (.ref k_MarketError)
  k_BadFair : Addr
  gk_BadFair : mg "BadFair" = some (.ref k_BadFair)
  t_BadFair : ClsT K etab "BadFair" (.ref k_BadFair)
  k_NoSuch : Addr
  gk_NoSuch : mg "NoSuch" = some (.ref k_NoSuch)
  t_NoSuch : ClsT K etab "NoSuch" (.ref k_NoSuch)
  iC_BadFair : ∀ D : Addr, PySem.W.nsIn K mainGlobals "BadFair" = some (some (.ref D)) → ExcC K D
  tq_BadFair_ValueError : ∀ D : Addr, PySem.W.nsIn K mainGlobals "BadFair" = some (some (.ref D)) → PySem.W.kitOne K (.ref D) (.type "ValueError") = some true
  q_BadFair_MarketError : Addr
  gq_BadFair_MarketError : mg "MarketError" = some (.ref q_BadFair_MarketError)
  tq_BadFair_MarketError : ∀ D : Addr, PySem.W.nsIn K mainGlobals "BadFair" = some (some (.ref D)) → PySem.W.kitOne K (.ref D) (.ref q_BadFair_MarketError) = some true
  a_is_name : Addr
  d_is_name : FuncData
  F_is_name : Fun K "is_name" "is_name" s_is_name a_is_name d_is_name
  g_is_name : mg "is_name" = some (.ref a_is_name)
  a_is_integer : Addr
  d_is_integer : FuncData
  F_is_integer : Fun K "is_integer" "is_integer" s_is_integer a_is_integer d_is_integer
  g_is_integer : mg "is_integer" = some (.ref a_is_integer)
  a_trader_word : Addr
  d_trader_word : FuncData
  F_trader_word : Fun K "trader_word" "trader_word" s_trader_word a_trader_word d_trader_word
  g_trader_word : mg "trader_word" = some (.ref a_trader_word)
  a_check_fair : Addr
  d_check_fair : FuncData
  F_check_fair : Fun K "check_fair" "check_fair" s_check_fair a_check_fair d_check_fair
  g_check_fair : mg "check_fair" = some (.ref a_check_fair)
  a_found_holding : Addr
  d_found_holding : FuncData
  F_found_holding : Fun K "found_holding" "found_holding" s_found_holding a_found_holding d_found_holding
  g_found_holding : mg "found_holding" = some (.ref a_found_holding)
  a_holding_of : Addr
  d_holding_of : FuncData
  F_holding_of : Fun K "holding_of" "holding_of" s_holding_of a_holding_of d_holding_of
  g_holding_of : mg "holding_of" = some (.ref a_holding_of)
  a_is_start_fair : Addr
  d_is_start_fair : FuncData
  F_is_start_fair : Fun K "is_start_fair" "is_start_fair" s_is_start_fair a_is_start_fair d_is_start_fair
  g_is_start_fair : mg "is_start_fair" = some (.ref a_is_start_fair)
  a_total_money : Addr
  d_total_money : FuncData
  F_total_money : Fun K "total_money" "total_money" s_total_money a_total_money d_total_money
  g_total_money : mg "total_money" = some (.ref a_total_money)
  a__law_same : Addr
  d__law_same : FuncData
  F__law_same : Fun K "_law_same" "_law_same" s__law_same a__law_same d__law_same
  g__law_same : mg "_law_same" = some (.ref a__law_same)
  a__law_draw : Addr
  d__law_draw : FuncData
  F__law_draw : Fun K "_law_draw" "_law_draw" s__law_draw a__law_draw d__law_draw
  g__law_draw : mg "_law_draw" = some (.ref a__law_draw)
  a__law_words : Addr
  d__law_words : FuncData
  F__law_words : Fun K "_law_words" "_law_words" s__law_words a__law_words d__law_words
  g__law_words : mg "_law_words" = some (.ref a__law_words)
  a__law_name : Addr
  d__law_name : FuncData
  F__law_name : Fun K "_law_name" "_law_name" s__law_name a__law_name d__law_name
  g__law_name : mg "_law_name" = some (.ref a__law_name)
  a__law_names : Addr
  d__law_names : FuncData
  F__law_names : Fun K "_law_names" "_law_names" s__law_names a__law_names d__law_names
  g__law_names : mg "_law_names" = some (.ref a__law_names)
  a__law_is_name : Addr
  d__law_is_name : FuncData
  F__law_is_name : Fun K "_law_is_name" "_law_is_name" s__law_is_name a__law_is_name d__law_is_name
  g__law_is_name : mg "_law_is_name" = some (.ref a__law_is_name)
  a__law_market : Addr
  d__law_market : FuncData
  F__law_market : Fun K "_law_market" "_law_market" s__law_market a__law_market d__law_market
  g__law_market : mg "_law_market" = some (.ref a__law_market)
  a__law_fair : Addr
  d__law_fair : FuncData
  F__law_fair : Fun K "_law_fair" "_law_fair" s__law_fair a__law_fair d__law_fair
  g__law_fair : mg "_law_fair" = some (.ref a__law_fair)
  a__law_due : Addr
  d__law_due : FuncData
  F__law_due : Fun K "_law_due" "_law_due" s__law_due a__law_due d__law_due
  g__law_due : mg "_law_due" = some (.ref a__law_due)
  a__law_checked : Addr
  d__law_checked : FuncData
  F__law_checked : Fun K "_law_checked" "_law_checked" s__law_checked a__law_checked d__law_checked
  g__law_checked : mg "_law_checked" = some (.ref a__law_checked)
  a__law_held : Addr
  d__law_held : FuncData
  F__law_held : Fun K "_law_held" "_law_held" s__law_held a__law_held d__law_held
  g__law_held : mg "_law_held" = some (.ref a__law_held)
  a__law_put : Addr
  d__law_put : FuncData
  F__law_put : Fun K "_law_put" "_law_put" s__law_put a__law_put d__law_put
  g__law_put : mg "_law_put" = some (.ref a__law_put)
  a__law_no_row : Addr
  d__law_no_row : FuncData
  F__law_no_row : Fun K "_law_no_row" "_law_no_row" s__law_no_row a__law_no_row d__law_no_row
  g__law_no_row : mg "_law_no_row" = some (.ref a__law_no_row)
  a__law_no_name : Addr
  d__law_no_name : FuncData
  F__law_no_name : Fun K "_law_no_name" "_law_no_name" s__law_no_name a__law_no_name d__law_no_name
  g__law_no_name : mg "_law_no_name" = some (.ref a__law_no_name)
  a__law_bent : Addr
  d__law_bent : FuncData
  F__law_bent : Fun K "_law_bent" "_law_bent" s__law_bent a__law_bent d__law_bent
  g__law_bent : mg "_law_bent" = some (.ref a__law_bent)
  a__law_two : Addr
  d__law_two : FuncData
  F__law_two : Fun K "_law_two" "_law_two" s__law_two a__law_two d__law_two
  g__law_two : mg "_law_two" = some (.ref a__law_two)
  a_law : Addr
  d_law : FuncData
  F_law : Fun K "law" "law" s_law a_law d_law
  g_law : mg "law" = some (.ref a_law)
  c_KEPT : GConst K mg "KEPT" (.tup [(.str "good"), (.str "start"), (.str "offer"), (.str "other"), (.str "house"), (.str "least"), (.str "most"), (.str "from"), (.str "turn"), (.str "rests"), (.str "none"), (.str "never"), (.str "may"), (.str "deal"), (.str "join")])
  c_SMALL : GConst K mg "SMALL" (.str "abcdefghijklmnopqrstuvwxyz")
  c_FIGURES : GConst K mg "FIGURES" (.str "0123456789")
  b_isinstance : mg "isinstance" = none
  b_str : mg "str" = none
  b_len : mg "len" = none
  b_all : mg "all" = none
  b_int : mg "int" = none
  b_bool : mg "bool" = none
  b_tuple : mg "tuple" = none
  b_enumerate : mg "enumerate" = none
  b_sum : mg "sum" = none
  b_zip : mg "zip" = none
  b_range : mg "range" = none
  b_sorted : mg "sorted" = none
  b_ValueError : mg "ValueError" = none
  b_list : mg "list" = none
section
variable {P : Program} {w : World} {K : PySem.W.Frag} {mg : Str → Option Value} {base : Heap}
theorem b_is_name (Fc : Facts P K mg) : Binds K Fc.d_is_name ["thing"] [] := Fc.F_is_name.binds (ps := ["thing"]) fun _ _ _ _ _ _ us hl => match us, hl with | [_], _ => rfl
theorem b_is_integer (Fc : Facts P K mg) : Binds K Fc.d_is_integer ["thing"] [] := Fc.F_is_integer.binds (ps := ["thing"]) fun _ _ _ _ _ _ us hl => match us, hl with | [_], _ => rfl
theorem b_trader_word (Fc : Facts P K mg) : Binds K Fc.d_trader_word ["market", "thing", "ahead"] [] := Fc.F_trader_word.binds (ps := ["market", "thing", "ahead"]) fun _ _ _ _ _ _ us hl => match us, hl with | [_, _, _], _ => rfl
theorem b_check_fair (Fc : Facts P K mg) : Binds K Fc.d_check_fair ["market", "thing"] [] := Fc.F_check_fair.binds (ps := ["market", "thing"]) fun _ _ _ _ _ _ us hl => match us, hl with | [_, _], _ => rfl
theorem b_found_holding (Fc : Facts P K mg) : Binds K Fc.d_found_holding ["fair", "trader"] [] := Fc.F_found_holding.binds (ps := ["fair", "trader"]) fun _ _ _ _ _ _ us hl => match us, hl with | [_, _], _ => rfl
theorem b_holding_of (Fc : Facts P K mg) : Binds K Fc.d_holding_of ["fair", "trader"] [] := Fc.F_holding_of.binds (ps := ["fair", "trader"]) fun _ _ _ _ _ _ us hl => match us, hl with | [_, _], _ => rfl
theorem b_is_start_fair (Fc : Facts P K mg) : Binds K Fc.d_is_start_fair ["market", "fair"] [] := Fc.F_is_start_fair.binds (ps := ["market", "fair"]) fun _ _ _ _ _ _ us hl => match us, hl with | [_, _], _ => rfl
theorem b_total_money (Fc : Facts P K mg) : Binds K Fc.d_total_money ["fair"] [] := Fc.F_total_money.binds (ps := ["fair"]) fun _ _ _ _ _ _ us hl => match us, hl with | [_], _ => rfl
theorem b__law_same (Fc : Facts P K mg) : Binds K Fc.d__law_same ["told", "due"] [] := Fc.F__law_same.binds (ps := ["told", "due"]) fun _ _ _ _ _ _ us hl => match us, hl with | [_, _], _ => rfl
theorem b__law_draw (Fc : Facts P K mg) : Binds K Fc.d__law_draw ["script", "place", "many"] [] := Fc.F__law_draw.binds (ps := ["script", "place", "many"]) fun _ _ _ _ _ _ us hl => match us, hl with | [_, _, _], _ => rfl
theorem b__law_words (Fc : Facts P K mg) : Binds K Fc.d__law_words [] [] := Fc.F__law_words.binds (ps := []) fun _ _ _ _ _ _ us hl => match us, hl with | [], _ => rfl
theorem b__law_name (Fc : Facts P K mg) : Binds K Fc.d__law_name ["script", "place", "index"] [] := Fc.F__law_name.binds (ps := ["script", "place", "index"]) fun _ _ _ _ _ _ us hl => match us, hl with | [_, _, _], _ => rfl
theorem b__law_names (Fc : Facts P K mg) : Binds K Fc.d__law_names ["script", "place", "many"] [] := Fc.F__law_names.binds (ps := ["script", "place", "many"]) fun _ _ _ _ _ _ us hl => match us, hl with | [_, _, _], _ => rfl
theorem b__law_is_name (Fc : Facts P K mg) : Binds K Fc.d__law_is_name ["thing"] [] := Fc.F__law_is_name.binds (ps := ["thing"]) fun _ _ _ _ _ _ us hl => match us, hl with | [_], _ => rfl
theorem b__law_market (Fc : Facts P K mg) : Binds K Fc.d__law_market ["script"] [] := Fc.F__law_market.binds (ps := ["script"]) fun _ _ _ _ _ _ us hl => match us, hl with | [_], _ => rfl
theorem b__law_fair (Fc : Facts P K mg) : Binds K Fc.d__law_fair ["script", "market", "many"] [] := Fc.F__law_fair.binds (ps := ["script", "market", "many"]) fun _ _ _ _ _ _ us hl => match us, hl with | [_, _, _], _ => rfl
theorem b__law_due (Fc : Facts P K mg) : Binds K Fc.d__law_due ["goods", "thing"] [] := Fc.F__law_due.binds (ps := ["goods", "thing"]) fun _ _ _ _ _ _ us hl => match us, hl with | [_, _], _ => rfl
theorem b__law_checked (Fc : Facts P K mg) : Binds K Fc.d__law_checked ["market", "thing"] [] := Fc.F__law_checked.binds (ps := ["market", "thing"]) fun _ _ _ _ _ _ us hl => match us, hl with | [_, _], _ => rfl
theorem b__law_held (Fc : Facts P K mg) : Binds K Fc.d__law_held ["fair", "trader"] [] := Fc.F__law_held.binds (ps := ["fair", "trader"]) fun _ _ _ _ _ _ us hl => match us, hl with | [_, _], _ => rfl
theorem b__law_put (Fc : Facts P K mg) : Binds K Fc.d__law_put ["fair", "at", "row"] [] := Fc.F__law_put.binds (ps := ["fair", "at", "row"]) fun _ _ _ _ _ _ us hl => match us, hl with | [_, _, _], _ => rfl
theorem b__law_no_row (Fc : Facts P K mg) : Binds K Fc.d__law_no_row ["row", "way"] [] := Fc.F__law_no_row.binds (ps := ["row", "way"]) fun _ _ _ _ _ _ us hl => match us, hl with | [_, _], _ => rfl
theorem b__law_no_name (Fc : Facts P K mg) : Binds K Fc.d__law_no_name ["row", "way"] [] := Fc.F__law_no_name.binds (ps := ["row", "way"]) fun _ _ _ _ _ _ us hl => match us, hl with | [_, _], _ => rfl
theorem b__law_bent (Fc : Facts P K mg) : Binds K Fc.d__law_bent ["script", "market", "fair"] [] := Fc.F__law_bent.binds (ps := ["script", "market", "fair"]) fun _ _ _ _ _ _ us hl => match us, hl with | [_, _, _], _ => rfl
theorem b__law_two (Fc : Facts P K mg) : Binds K Fc.d__law_two ["script", "market", "fair"] [] := Fc.F__law_two.binds (ps := ["script", "market", "fair"]) fun _ _ _ _ _ _ us hl => match us, hl with | [_, _, _], _ => rfl
theorem b_law (Fc : Facts P K mg) : Binds K Fc.d_law ["script"] [] := Fc.F_law.binds (ps := ["script"]) fun _ _ _ _ _ _ us hl => match us, hl with | [_], _ => rfl
abbrev N_is_name : List Str := ["thing", "sign"]
theorem sc_is_name : FnScope N_is_name ["thing"] (defScope s_is_name) := ⟨rfl, rfl, rfl, by decide +kernel, rfl, by decide +kernel, by decide +kernel⟩
noncomputable def ms_is_name_0 : MS := (mIfS (mOr (mNot (mT (mCb fIsi (mCons (mV 0) (mCons (mC (.ty "str")) mNil))))) (mOr (mNot (mTB (mChain fLe fLe (mC (.int 1)) (mCb fLen (mCons (mV 0) mNil)) (mC (.int 8))))) (mTB (mOp (fIn false) (mV 0) (mC (.tup [(.str "good"), (.str "start"), (.str "offer"), (.str "other"), (.str "house"), (.str "least"), (.str "most"), (.str "from"), (.str "turn"), (.str "rests"), (.str "none"), (.str "never"), (.str "may"), (.str "deal"), (.str "join")]))))))
    (mRet (mC (.bl false)))
    mNext)
theorem st_is_name_0 (Fc : Facts P K mg) (cdv : Value) (A : Around) (outer : List Env) (s : Shared) (H : Hp) (E : XK) (hr : Room (0) (A.deeper (envOfC "is_name" (defScope s_is_name) s.heap.objs.size Fc.a_is_name cdv))) : PS (cxOf CX0 P w K mg base N_is_name "is_name" (defScope s_is_name) Fc.a_is_name cdv A outer s H E).nox (stmtAt (defBody s_is_name) 0) (sM ⟨K, P, w⟩ (ms_is_name_0)) :=
    (z_if (y_or (y_not (y_t (x_cb c_isi (by rfl) Fc.b_isinstance bt_isinstance (a_cons (x_v 0) (a_cons (x_ty (by rfl) Fc.b_str bt_str) a_nil))))) (y_or (y_not (y_chain k_le k_le x_int (x_cb c_len (by rfl) Fc.b_len bt_len (a_cons (x_v 0) a_nil)) x_int)) (y_or1 (y_k k_in (x_v 0) (x_gc Fc.c_KEPT (by rfl)))))).pt
    (z_one (z_ret x_bl))
    z_nil)
noncomputable def ms_is_name_2 : MS := (mRet (mAndV (mOp (fInT false) (mOp fIxA (mV 0) (mC (.int 0))) (mC (.str "abcdefghijklmnopqrstuvwxyz"))) (mCb fAll (mCons (mLc false (miStr (mV 0)) (.name 1) mYes (mOp (fInT false) (mV 1) (mOp (fAdd false) (mC (.str "abcdefghijklmnopqrstuvwxyz")) (mC (.str "0123456789")))) [1]) mNil))))
theorem st_is_name_2 (Fc : Facts P K mg) (cdv : Value) (A : Around) (outer : List Env) (s : Shared) (H : Hp) (E : XK) (hr : Room (0) (A.deeper (envOfC "is_name" (defScope s_is_name) s.heap.objs.size Fc.a_is_name cdv))) : PS (cxOf CX0 P w K mg base N_is_name "is_name" (defScope s_is_name) Fc.a_is_name cdv A outer s H E).nox (stmtAt (defBody s_is_name) 1) (sM ⟨K, P, w⟩ (ms_is_name_2)) :=
    (z_ret (x_and (x_k k_inT (x_ixA (x_v 0) x_int) (x_gc Fc.c_SMALL (by rfl))) (x_one (x_cb c_all (by rfl) Fc.b_all bt_all (a_cons (x_lc false (T := (.name 1)) (own := [("sign", 1)]) rfl sc_is_name.nd (i_str (x_v 0)) (by first | exact blkOk_by (N := N_is_name) (sc := defScope s_is_name) (by decide +kernel) | exact blkOk_by (by kernel_rfl)) rfl (fun _ _ _ _ _ => (t_name 1 sc_is_name.nd rfl (by first | exact Or.inl rfl | exact Or.inr rfl))) (fun _ _ _ _ _ => cs_nil) (fun _ _ _ _ _ => (x_k k_inT (x_v 1) (x_add false (x_gc Fc.c_SMALL (by rfl)) (x_gc Fc.c_FIGURES (by rfl)))))) a_nil)))))
noncomputable def m_is_name : List D → Sto → Option (D × Sto) := mDef 2 1 (mSeq (ms_is_name_0)
    (ms_is_name_2))
theorem ok_is_name (Fc : Facts P K mg) : FnOk P w K mg base CX0 1 Fc.a_is_name Fc.d_is_name ["thing"] (spM ⟨K, P, w⟩ m_is_name) := x_def (k := 0) Fc.F_is_name sc_is_name rfl rfl fun cdv A outer s H E hr =>
    (z_cons (st_is_name_0 Fc cdv A outer s H E hr)
    (z_one (st_is_name_2 Fc cdv A outer s H E hr)))
abbrev N_is_integer : List Str := ["thing"]
theorem sc_is_integer : FnScope N_is_integer ["thing"] (defScope s_is_integer) := ⟨rfl, rfl, rfl, by decide +kernel, rfl, by decide +kernel, by decide +kernel⟩
noncomputable def ms_is_integer_0 : MS := (mRet (mAndV (mCb fIsi (mCons (mV 0) (mCons (mC (.ty "int")) mNil))) (mNotV (mCb fIsi (mCons (mV 0) (mCons (mC (.ty "bool")) mNil))))))
theorem st_is_integer_0 (Fc : Facts P K mg) (cdv : Value) (A : Around) (outer : List Env) (s : Shared) (H : Hp) (E : XK) (hr : Room (0) (A.deeper (envOfC "is_integer" (defScope s_is_integer) s.heap.objs.size Fc.a_is_integer cdv))) : PS (cxOf CX0 P w K mg base N_is_integer "is_integer" (defScope s_is_integer) Fc.a_is_integer cdv A outer s H E).nox (stmtAt (defBody s_is_integer) 0) (sM ⟨K, P, w⟩ (ms_is_integer_0)) :=
    (z_ret (x_and (x_cb c_isi (by rfl) Fc.b_isinstance bt_isinstance (a_cons (x_v 0) (a_cons (x_ty (by rfl) Fc.b_int bt_int) a_nil))) (x_one (x_not (x_cb c_isi (by rfl) Fc.b_isinstance bt_isinstance (a_cons (x_v 0) (a_cons (x_ty (by rfl) Fc.b_bool bt_bool) a_nil)))))))
noncomputable def m_is_integer : List D → Sto → Option (D × Sto) := mDef 1 1 (ms_is_integer_0)
theorem ok_is_integer (Fc : Facts P K mg) : FnOk P w K mg base CX0 1 Fc.a_is_integer Fc.d_is_integer ["thing"] (spM ⟨K, P, w⟩ m_is_integer) := x_def (k := 0) Fc.F_is_integer sc_is_integer rfl rfl fun cdv A outer s H E hr =>
    (z_one (st_is_integer_0 Fc cdv A outer s H E hr))
abbrev N_trader_word : List Str := ["market", "thing", "ahead", "name", "good", "money"]
theorem sc_trader_word : FnScope N_trader_word ["market", "thing", "ahead"] (defScope s_trader_word) := ⟨rfl, rfl, rfl, by decide +kernel, rfl, by decide +kernel, by decide +kernel⟩
noncomputable def ms_trader_word_0 : MS := (mIfS (mOr (mNot (mT (mCb fIsi (mCons (mV 1) (mCons (mC (.ty "tuple")) mNil))))) (mTB (mOp fNe (mCb fLen (mCons (mV 1) mNil)) (mC (.int 3)))))
    (mRet (mC (.str "shape")))
    mNext)
theorem st_trader_word_0 (Fc : Facts P K mg) (cdv : Value) (A : Around) (outer : List Env) (s : Shared) (H : Hp) (E : XK) (hr : Room (1) (A.deeper (envOfC "trader_word" (defScope s_trader_word) s.heap.objs.size Fc.a_trader_word cdv))) : PS (cxOf CX0 P w K mg base N_trader_word "trader_word" (defScope s_trader_word) Fc.a_trader_word cdv A outer s H E).nox (stmtAt (defBody s_trader_word) 0) (sM ⟨K, P, w⟩ (ms_trader_word_0)) :=
    (z_if (y_or (y_not (y_t (x_cb c_isi (by rfl) Fc.b_isinstance bt_isinstance (a_cons (x_v 1) (a_cons (x_ty (by rfl) Fc.b_tuple bt_tuple) a_nil))))) (y_or1 (y_k (k_ne hr) (x_cb c_len (by rfl) Fc.b_len bt_len (a_cons (x_v 1) a_nil)) x_int))).pt
    (z_one (z_ret x_str))
    z_nil)
noncomputable def ms_trader_word_2 : MS := (mAsg (mV 1) (mgTup 3 (mgCons (mgT (.name 3)) (mgCons (mgT (.name 4)) (mgCons (mgT (.name 5)) mgNil)))))
theorem st_trader_word_2 (Fc : Facts P K mg) (cdv : Value) (A : Around) (outer : List Env) (s : Shared) (H : Hp) (E : XK) (hr : Room (1) (A.deeper (envOfC "trader_word" (defScope s_trader_word) s.heap.objs.size Fc.a_trader_word cdv))) : PS (cxOf CX0 P w K mg base N_trader_word "trader_word" (defScope s_trader_word) Fc.a_trader_word cdv A outer s H E).nox (stmtAt (defBody s_trader_word) 1) (sM ⟨K, P, w⟩ (ms_trader_word_2)) :=
    (z_asg (x_v 1) (g_tup (n := 3) rfl (g_cons (g_T (t_name 3 sc_trader_word.nd rfl (by first | exact Or.inl rfl | exact Or.inr rfl))) (g_cons (g_T (t_name 4 sc_trader_word.nd rfl (by first | exact Or.inl rfl | exact Or.inr rfl))) (g_cons (g_T (t_name 5 sc_trader_word.nd rfl (by first | exact Or.inl rfl | exact Or.inr rfl))) g_nil)))))
noncomputable def ms_trader_word_4 : MS := (mIfS (mOr (mNot (mT (mCb fIsi (mCons (mV 3) (mCons (mC (.ty "str")) mNil))))) (mOr (mNot (mT (mCb fIsi (mCons (mV 4) (mCons (mC (.ty "str")) mNil))))) (mNot (mT (mCb m_is_integer (mCons (mV 5) mNil))))))
    (mRet (mC (.str "shape")))
    mNext)
theorem st_trader_word_4 (Fc : Facts P K mg) (cdv : Value) (A : Around) (outer : List Env) (s : Shared) (H : Hp) (E : XK) (hr : Room (1) (A.deeper (envOfC "trader_word" (defScope s_trader_word) s.heap.objs.size Fc.a_trader_word cdv))) : PS (cxOf CX0 P w K mg base N_trader_word "trader_word" (defScope s_trader_word) Fc.a_trader_word cdv A outer s H E).nox (stmtAt (defBody s_trader_word) 2) (sM ⟨K, P, w⟩ (ms_trader_word_4)) :=
    (z_if (y_or (y_not (y_t (x_cb c_isi (by rfl) Fc.b_isinstance bt_isinstance (a_cons (x_v 3) (a_cons (x_ty (by rfl) Fc.b_str bt_str) a_nil))))) (y_or (y_not (y_t (x_cb c_isi (by rfl) Fc.b_isinstance bt_isinstance (a_cons (x_v 4) (a_cons (x_ty (by rfl) Fc.b_str bt_str) a_nil))))) (y_or1 (y_not (y_t (x_call (ok_is_integer Fc) (hr.mono (by decide)) (by rfl) Fc.g_is_integer Fc.F_is_integer.kp (b_is_integer Fc) (a_cons (x_v 5) a_nil))))))).pt
    (z_one (z_ret x_str))
    z_nil)
noncomputable def ms_trader_word_6 : MS := (mIfS (mNot (mT (mCb m_is_name (mCons (mV 3) mNil))))
    (mRet (mC (.str "name")))
    mNext)
theorem st_trader_word_6 (Fc : Facts P K mg) (cdv : Value) (A : Around) (outer : List Env) (s : Shared) (H : Hp) (E : XK) (hr : Room (1) (A.deeper (envOfC "trader_word" (defScope s_trader_word) s.heap.objs.size Fc.a_trader_word cdv))) : PS (cxOf CX0 P w K mg base N_trader_word "trader_word" (defScope s_trader_word) Fc.a_trader_word cdv A outer s H E).nox (stmtAt (defBody s_trader_word) 3) (sM ⟨K, P, w⟩ (ms_trader_word_6)) :=
    (z_if (y_not (y_t (x_call (ok_is_name Fc) (hr.mono (by decide)) (by rfl) Fc.g_is_name Fc.F_is_name.kp (b_is_name Fc) (a_cons (x_v 3) a_nil))))
    (z_one (z_ret x_str))
    z_nil)
noncomputable def m_trader_word : List D → Sto → Option (D × Sto) := mDef 6 3 (mSeq (ms_trader_word_0)
    (mSeq (ms_trader_word_2)
    (mSeq (ms_trader_word_4)
    (mSeq (ms_trader_word_6)
    (mSeq (mIfS (mAnd (mTB (mOp (fIsN true) (mV 2) (mC .non))) (mNot (mTB (mOp fLt (mV 2) (mV 3)))))
    (mRet (mC (.str "order")))
    mNext)
    (mSeq (mIfS (mTB (mOp (fIn true) (mV 4) (mOp fIx (mV 0) (mC (.int 0)))))
    (mRet (mC (.str "good")))
    mNext)
    (mRet (mIf (mTB (mOp fLt (mV 5) (mC (.int 0)))) (mC (.str "money")) (mC .non)))))))))
theorem ok_trader_word (Fc : Facts P K mg) : FnOk P w K mg base CX0 2 Fc.a_trader_word Fc.d_trader_word ["market", "thing", "ahead"] (spM ⟨K, P, w⟩ m_trader_word) := x_def (k := 1) Fc.F_trader_word sc_trader_word rfl rfl fun cdv A outer s H E hr =>
    (z_cons (st_trader_word_0 Fc cdv A outer s H E hr)
    (z_cons (st_trader_word_2 Fc cdv A outer s H E hr)
    (z_cons (st_trader_word_4 Fc cdv A outer s H E hr)
    (z_cons (st_trader_word_6 Fc cdv A outer s H E hr)
    (z_cons (z_if (y_and (y_k k_isnot (x_v 2) x_non) (y_and1 (y_not (y_k k_lt (x_v 2) (x_v 3))))).pt
    (z_one (z_ret x_str))
    z_nil)
    (z_cons (z_if (y_k k_ni (x_v 4) (x_ix (x_v 0) x_int))
    (z_one (z_ret x_str))
    z_nil)
    (z_one (z_ret (x_if (y_k k_lt (x_v 5) x_int) x_str x_non)))))))))
abbrev N_check_fair : List Str := ["market", "thing", "ahead", "number", "row", "word"]
theorem sc_check_fair : FnScope N_check_fair ["market", "thing"] (defScope s_check_fair) := ⟨rfl, rfl, rfl, by decide +kernel, rfl, by decide +kernel, by decide +kernel⟩
noncomputable def ms_check_fair_0 : MS := (mAsg (mCb m_trader_word (mCons (mV 0) (mCons (mV 4) (mCons (mV 2) mNil)))) (mgName 5))
theorem st_check_fair_0 (Fc : Facts P K mg) (cdv : Value) (A : Around) (outer : List Env) (s : Shared) (H : Hp) (E : XK) (hr : Room (2) (A.deeper (envOfC "check_fair" (defScope s_check_fair) s.heap.objs.size Fc.a_check_fair cdv))) : PS (cxOf CX0 P w K mg base N_check_fair "check_fair" (defScope s_check_fair) Fc.a_check_fair cdv A outer s H E).nox (stmtAt (bodyOf (stmtAt (defBody s_check_fair) 2)) 0) (sM ⟨K, P, w⟩ (ms_check_fair_0)) :=
    (z_set 5 sc_check_fair.nd rfl (by first | exact Or.inl rfl | exact Or.inr rfl) (x_call (ok_trader_word Fc) (hr.mono (by decide)) (by rfl) Fc.g_trader_word Fc.F_trader_word.kp (b_trader_word Fc) (a_cons (x_v 0) (a_cons (x_v 4) (a_cons (x_v 2) a_nil)))))
noncomputable def mx_check_fair : MFx := mDefX 6 2 (seqX (ifX (mNot (mT (mCb fIsi (mCons (mV 1) (mCons (mC (.ty "tuple")) mNil)))))
    (mRaise "BadFair" ["number", "word"] (mCons (mUn fNeg (mC (.int 1))) (mCons (mC (.str "shape")) mNil)))
    (lS mNext))
    (seqX (lS (mAsg (mC .non) (mgName 2)))
    (seqX (forX (miEnumA (mCons (mV 1) mNil)) (.tup [(.name 3), (.name 4)])
    (seqX (lS (ms_check_fair_0))
    (seqX (ifX (mTB (mOp (fIsN true) (mV 5) (mC .non)))
    (mRaise "BadFair" ["number", "word"] (mCons (mV 3) (mCons (mV 5) mNil)))
    (lS mNext))
    (lS (mAsg (mOp fIx (mV 4) (mC (.int 0))) (mgName 2))))))
    (lS (mRet (mCb fLen (mCons (mV 1) mNil)))))))
theorem okx_check_fair (Fc : Facts P K mg) : FnOk P w K mg base (L2.CX P w) 3 Fc.a_check_fair Fc.d_check_fair ["market", "thing"] (spX ⟨K, P, w⟩ mx_check_fair) := x_defX (k := 2) Fc.F_check_fair sc_check_fair rfl rfl fun cdv A outer s H E hr tk =>
    (xs_cons (xs_if (PT.nox (y_not (y_t (x_cb c_isi (by rfl) Fc.b_isinstance bt_isinstance (a_cons (x_v 1) (a_cons (x_ty (by rfl) Fc.b_tuple bt_tuple) a_nil))))))
    (xs_one (xs_raise (k := 1) (fs := ["number", "word"]) rfl tk Fc.x_BadFair.T Fc.x_BadFair.n Fc.x_BadFair.ic Fc.x_BadFair.it (Fc.x_BadFair.J _ _) (hr.mono (by decide)) Fc.x_BadFair.b (by rfl) Fc.x_BadFair.g (a_cons (x_neg x_int) (a_cons x_str a_nil))))
    xs_nil)
    (xs_cons (lp1 (psn (z_set 2 sc_check_fair.nd rfl (by first | exact Or.inl rfl | exact Or.inr rfl) x_non)))
    (xs_cons (xs_for (passes_of rfl) rfl (i_enumA (by rfl) Fc.b_enumerate (a_cons (x_v 1) a_nil)) (t_tup rfl (ts_cons (t_name 3 sc_check_fair.nd rfl (by first | exact Or.inl rfl | exact Or.inr rfl)) (ts_cons (t_name 4 sc_check_fair.nd rfl (by first | exact Or.inl rfl | exact Or.inr rfl)) ts_nil)))
    (xs_cons (lp1 (psn (st_check_fair_0 Fc cdv A outer s H E hr)))
    (xs_cons (xs_if (PT.nox (y_k k_isnot (x_v 5) x_non))
    (xs_one (xs_raise (k := 1) (fs := ["number", "word"]) rfl tk Fc.x_BadFair.T Fc.x_BadFair.n Fc.x_BadFair.ic Fc.x_BadFair.it (Fc.x_BadFair.J _ _) (hr.mono (by decide)) Fc.x_BadFair.b (by rfl) Fc.x_BadFair.g (a_cons (x_v 3) (a_cons (x_v 5) a_nil))))
    xs_nil)
    (xs_one (lp1 (psn (z_set 2 sc_check_fair.nd rfl (by first | exact Or.inl rfl | exact Or.inr rfl) (x_ix (x_v 4) x_int))))))))
    (xs_one (lp1 (psn (z_ret (x_cb c_len (by rfl) Fc.b_len bt_len (a_cons (x_v 1) a_nil)))))))))
abbrev N_found_holding : List Str := ["fair", "trader", "name", "good", "money"]
theorem sc_found_holding : FnScope N_found_holding ["fair", "trader"] (defScope s_found_holding) := ⟨rfl, rfl, rfl, by decide +kernel, rfl, by decide +kernel, by decide +kernel⟩
noncomputable def ms_found_holding_0 : MS := (mFor (miSeq (mV 0)) (.tup [(.name 2), (.name 3), (.name 4)])
    (mIfS (mTB (mOp fEq (mV 2) (mV 1)))
    (mRet (mTup (mCons (mV 3) (mCons (mV 4) mNil))))
    mNext))
theorem st_found_holding_0 (Fc : Facts P K mg) (cdv : Value) (A : Around) (outer : List Env) (s : Shared) (H : Hp) (E : XK) (hr : Room (0) (A.deeper (envOfC "found_holding" (defScope s_found_holding) s.heap.objs.size Fc.a_found_holding cdv))) : PS (cxOf CX0 P w K mg base N_found_holding "found_holding" (defScope s_found_holding) Fc.a_found_holding cdv A outer s H E).nox (stmtAt (defBody s_found_holding) 0) (sM ⟨K, P, w⟩ (ms_found_holding_0)) :=
    (z_for PassesOwn.never rfl (i_seq (x_v 0)) (t_tup rfl (ts_cons (t_name 2 sc_found_holding.nd rfl (by first | exact Or.inl rfl | exact Or.inr rfl)) (ts_cons (t_name 3 sc_found_holding.nd rfl (by first | exact Or.inl rfl | exact Or.inr rfl)) (ts_cons (t_name 4 sc_found_holding.nd rfl (by first | exact Or.inl rfl | exact Or.inr rfl)) ts_nil))))
    (z_one (z_if (y_k (k_eq hr) (x_v 2) (x_v 1))
    (z_one (z_ret (x_tup (a_cons (x_v 3) (a_cons (x_v 4) a_nil)))))
    z_nil)))
noncomputable def m_found_holding : List D → Sto → Option (D × Sto) := mDef 5 2 (mSeq (ms_found_holding_0)
    (mRet (mC .non)))
theorem ok_found_holding (Fc : Facts P K mg) : FnOk P w K mg base CX0 1 Fc.a_found_holding Fc.d_found_holding ["fair", "trader"] (spM ⟨K, P, w⟩ m_found_holding) := x_def (k := 0) Fc.F_found_holding sc_found_holding rfl rfl fun cdv A outer s H E hr =>
    (z_cons (st_found_holding_0 Fc cdv A outer s H E hr)
    (z_one (z_ret x_non)))
abbrev N_holding_of : List Str := ["fair", "trader", "holding"]
theorem sc_holding_of : FnScope N_holding_of ["fair", "trader"] (defScope s_holding_of) := ⟨rfl, rfl, rfl, by decide +kernel, rfl, by decide +kernel, by decide +kernel⟩
noncomputable def ms_holding_of_0 : MS := (mAsg (mCb m_found_holding (mCons (mV 0) (mCons (mV 1) mNil))) (mgName 2))
theorem st_holding_of_0 (Fc : Facts P K mg) (cdv : Value) (A : Around) (outer : List Env) (s : Shared) (H : Hp) (E : XK) (hr : Room (2) (A.deeper (envOfC "holding_of" (defScope s_holding_of) s.heap.objs.size Fc.a_holding_of cdv))) : PS (cxOf CX0 P w K mg base N_holding_of "holding_of" (defScope s_holding_of) Fc.a_holding_of cdv A outer s H E).nox (stmtAt (defBody s_holding_of) 0) (sM ⟨K, P, w⟩ (ms_holding_of_0)) :=
    (z_set 2 sc_holding_of.nd rfl (by first | exact Or.inl rfl | exact Or.inr rfl) (x_call (ok_found_holding Fc) (hr.mono (by decide)) (by rfl) Fc.g_found_holding Fc.F_found_holding.kp (b_found_holding Fc) (a_cons (x_v 0) (a_cons (x_v 1) a_nil))))
noncomputable def mx_holding_of : MFx := mDefX 3 2 (seqX (lS (ms_holding_of_0))
    (seqX (ifX (mTB (mOp (fIsN false) (mV 2) (mC .non)))
    (mRaise "NoSuch" ["word", "name"] (mCons (mC (.str "trader")) (mCons (mV 1) mNil)))
    (lS mNext))
    (lS (mRet (mV 2)))))
theorem okx_holding_of (Fc : Facts P K mg) : FnOk P w K mg base (L2.CX P w) 3 Fc.a_holding_of Fc.d_holding_of ["fair", "trader"] (spX ⟨K, P, w⟩ mx_holding_of) := x_defX (k := 2) Fc.F_holding_of sc_holding_of rfl rfl fun cdv A outer s H E hr tk =>
    (xs_cons (lp1 (psn (st_holding_of_0 Fc cdv A outer s H E hr)))
    (xs_cons (xs_if (PT.nox (y_k k_is (x_v 2) x_non))
    (xs_one (xs_raise (k := 1) (fs := ["word", "name"]) rfl tk Fc.x_NoSuch.T Fc.x_NoSuch.n Fc.x_NoSuch.ic Fc.x_NoSuch.it (Fc.x_NoSuch.J _ _) (hr.mono (by decide)) Fc.x_NoSuch.b (by rfl) Fc.x_NoSuch.g (a_cons x_str (a_cons (x_v 1) a_nil))))
    xs_nil)
    (xs_one (lp1 (psn (z_ret (x_v 2)))))))
abbrev N_is_start_fair : List Str := ["market", "fair", "name", "good", "money"]
theorem sc_is_start_fair : FnScope N_is_start_fair ["market", "fair"] (defScope s_is_start_fair) := ⟨rfl, rfl, rfl, by decide +kernel, rfl, by decide +kernel, by decide +kernel⟩
noncomputable def ms_is_start_fair_0 : MS := (mRet (mCb fAll (mCons (mLc false (miSeq (mV 1)) (.tup [(.name 2), (.name 3), (.name 4)]) mYes (mOp (fInU false) (mTup (mCons (mV 3) (mCons (mV 4) mNil))) (mOp fIx (mV 0) (mC (.int 1)))) [2, 3, 4]) mNil)))
theorem st_is_start_fair_0 (Fc : Facts P K mg) (cdv : Value) (A : Around) (outer : List Env) (s : Shared) (H : Hp) (E : XK) (hr : Room (0) (A.deeper (envOfC "is_start_fair" (defScope s_is_start_fair) s.heap.objs.size Fc.a_is_start_fair cdv))) : PS (cxOf CX0 P w K mg base N_is_start_fair "is_start_fair" (defScope s_is_start_fair) Fc.a_is_start_fair cdv A outer s H E).nox (stmtAt (defBody s_is_start_fair) 0) (sM ⟨K, P, w⟩ (ms_is_start_fair_0)) :=
    (z_ret (x_cb c_all (by rfl) Fc.b_all bt_all (a_cons (x_lc false (T := (.tup [(.name 2), (.name 3), (.name 4)])) (own := [("name", 2), ("good", 3), ("money", 4)]) rfl sc_is_start_fair.nd (i_seq (x_v 1)) (by first | exact blkOk_by (N := N_is_start_fair) (sc := defScope s_is_start_fair) (by decide +kernel) | exact blkOk_by (by kernel_rfl)) rfl (fun _ _ _ _ _ => (t_tup rfl (ts_cons (t_name 2 sc_is_start_fair.nd rfl (by first | exact Or.inl rfl | exact Or.inr rfl)) (ts_cons (t_name 3 sc_is_start_fair.nd rfl (by first | exact Or.inl rfl | exact Or.inr rfl)) (ts_cons (t_name 4 sc_is_start_fair.nd rfl (by first | exact Or.inl rfl | exact Or.inr rfl)) ts_nil))))) (fun _ _ _ _ _ => cs_nil) (fun _ _ _ _ _ => (x_k (k_inU hr) (x_tup (a_cons (x_v 3) (a_cons (x_v 4) a_nil))) (x_ix (x_v 0) x_int)))) a_nil)))
noncomputable def m_is_start_fair : List D → Sto → Option (D × Sto) := mDef 5 2 (ms_is_start_fair_0)
theorem ok_is_start_fair (Fc : Facts P K mg) : FnOk P w K mg base CX0 1 Fc.a_is_start_fair Fc.d_is_start_fair ["market", "fair"] (spM ⟨K, P, w⟩ m_is_start_fair) := x_def (k := 0) Fc.F_is_start_fair sc_is_start_fair rfl rfl fun cdv A outer s H E hr =>
    (z_one (st_is_start_fair_0 Fc cdv A outer s H E hr))
abbrev N_total_money : List Str := ["fair", "name", "good", "money"]
theorem sc_total_money : FnScope N_total_money ["fair"] (defScope s_total_money) := ⟨rfl, rfl, rfl, by decide +kernel, rfl, by decide +kernel, by decide +kernel⟩
noncomputable def ms_total_money_0 : MS := (mRet (mCb fSum (mCons (mLc false (miSeq (mV 0)) (.tup [(.name 1), (.name 2), (.name 3)]) mYes (mV 3) [1, 2, 3]) mNil)))
theorem st_total_money_0 (Fc : Facts P K mg) (cdv : Value) (A : Around) (outer : List Env) (s : Shared) (H : Hp) (E : XK) (hr : Room (0) (A.deeper (envOfC "total_money" (defScope s_total_money) s.heap.objs.size Fc.a_total_money cdv))) : PS (cxOf CX0 P w K mg base N_total_money "total_money" (defScope s_total_money) Fc.a_total_money cdv A outer s H E).nox (stmtAt (defBody s_total_money) 0) (sM ⟨K, P, w⟩ (ms_total_money_0)) :=
    (z_ret (x_cb c_sum (by rfl) Fc.b_sum bt_sum (a_cons (x_lc false (T := (.tup [(.name 1), (.name 2), (.name 3)])) (own := [("name", 1), ("good", 2), ("money", 3)]) rfl sc_total_money.nd (i_seq (x_v 0)) (by first | exact blkOk_by (N := N_total_money) (sc := defScope s_total_money) (by decide +kernel) | exact blkOk_by (by kernel_rfl)) rfl (fun _ _ _ _ _ => (t_tup rfl (ts_cons (t_name 1 sc_total_money.nd rfl (by first | exact Or.inl rfl | exact Or.inr rfl)) (ts_cons (t_name 2 sc_total_money.nd rfl (by first | exact Or.inl rfl | exact Or.inr rfl)) (ts_cons (t_name 3 sc_total_money.nd rfl (by first | exact Or.inl rfl | exact Or.inr rfl)) ts_nil))))) (fun _ _ _ _ _ => cs_nil) (fun _ _ _ _ _ => (x_v 3))) a_nil)))
noncomputable def m_total_money : List D → Sto → Option (D × Sto) := mDef 4 1 (ms_total_money_0)
theorem ok_total_money (Fc : Facts P K mg) : FnOk P w K mg base CX0 1 Fc.a_total_money Fc.d_total_money ["fair"] (spM ⟨K, P, w⟩ m_total_money) := x_def (k := 0) Fc.F_total_money sc_total_money rfl rfl fun cdv A outer s H E hr =>
    (z_one (st_total_money_0 Fc cdv A outer s H E hr))
abbrev N__law_same : List Str := ["told", "due", "one", "other"]
theorem sc__law_same : FnScope N__law_same ["told", "due"] (defScope s__law_same) := ⟨rfl, rfl, rfl, by decide +kernel, rfl, by decide +kernel, by decide +kernel⟩
noncomputable def ms__law_same_0 (rc : List D → Sto → Option (D × Sto)) : MS := (mRet (mAndV (mCb fIsi (mCons (mV 0) (mCons (mC (.ty "int")) mNil))) (mAndV (mNotV (mCb fIsi (mCons (mV 0) (mCons (mC (.ty "bool")) mNil)))) (mOp fEq (mV 0) (mV 1)))))
theorem st__law_same_0 (Fc : Facts P K mg) (n : Nat) (rc : List D → Sto → Option (D × Sto)) (ih : FnOk P w K mg base CX0 (n + 1) Fc.a__law_same Fc.d__law_same ["told", "due"] (spM ⟨K, P, w⟩ rc)) (cdv : Value) (A : Around) (outer : List Env) (s : Shared) (H : Hp) (E : XK) (hr : Room (n + 1) (A.deeper (envOfC "_law_same" (defScope s__law_same) s.heap.objs.size Fc.a__law_same cdv))) : PS (cxOf CX0 P w K mg base N__law_same "_law_same" (defScope s__law_same) Fc.a__law_same cdv A outer s H E).nox (stmtAt (bodyOf (stmtAt (defBody s__law_same) 3)) 0) (sM ⟨K, P, w⟩ (ms__law_same_0 rc)) :=
    (z_ret (x_and (x_cb c_isi (by rfl) Fc.b_isinstance bt_isinstance (a_cons (x_v 0) (a_cons (x_ty (by rfl) Fc.b_int bt_int) a_nil))) (x_and (x_not (x_cb c_isi (by rfl) Fc.b_isinstance bt_isinstance (a_cons (x_v 0) (a_cons (x_ty (by rfl) Fc.b_bool bt_bool) a_nil)))) (x_one (x_k (k_eq hr) (x_v 0) (x_v 1))))))
noncomputable def ms__law_same_2 (rc : List D → Sto → Option (D × Sto)) : MS := (mRet (mAndV (mCb fIsi (mCons (mV 0) (mCons (mC (.ty "str")) mNil))) (mOp fEq (mV 0) (mV 1))))
theorem st__law_same_2 (Fc : Facts P K mg) (n : Nat) (rc : List D → Sto → Option (D × Sto)) (ih : FnOk P w K mg base CX0 (n + 1) Fc.a__law_same Fc.d__law_same ["told", "due"] (spM ⟨K, P, w⟩ rc)) (cdv : Value) (A : Around) (outer : List Env) (s : Shared) (H : Hp) (E : XK) (hr : Room (n + 1) (A.deeper (envOfC "_law_same" (defScope s__law_same) s.heap.objs.size Fc.a__law_same cdv))) : PS (cxOf CX0 P w K mg base N__law_same "_law_same" (defScope s__law_same) Fc.a__law_same cdv A outer s H E).nox (stmtAt (bodyOf (stmtAt (defBody s__law_same) 4)) 0) (sM ⟨K, P, w⟩ (ms__law_same_2 rc)) :=
    (z_ret (x_and (x_cb c_isi (by rfl) Fc.b_isinstance bt_isinstance (a_cons (x_v 0) (a_cons (x_ty (by rfl) Fc.b_str bt_str) a_nil))) (x_one (x_k (k_eq hr) (x_v 0) (x_v 1)))))
noncomputable def ms__law_same_4 (rc : List D → Sto → Option (D × Sto)) : MS := (mIfS (mNot (mT (mCb rc (mCons (mV 2) (mCons (mV 3) mNil)))))
    (mRet (mC (.bl false)))
    mNext)
theorem st__law_same_4 (Fc : Facts P K mg) (n : Nat) (rc : List D → Sto → Option (D × Sto)) (ih : FnOk P w K mg base CX0 (n + 1) Fc.a__law_same Fc.d__law_same ["told", "due"] (spM ⟨K, P, w⟩ rc)) (cdv : Value) (A : Around) (outer : List Env) (s : Shared) (H : Hp) (E : XK) (hr : Room (n + 1) (A.deeper (envOfC "_law_same" (defScope s__law_same) s.heap.objs.size Fc.a__law_same cdv))) : PS (cxOf CX0 P w K mg base N__law_same "_law_same" (defScope s__law_same) Fc.a__law_same cdv A outer s H E).nox (stmtAt (bodyOf (stmtAt (defBody s__law_same) 6)) 0) (sM ⟨K, P, w⟩ (ms__law_same_4 rc)) :=
    (z_if (y_not (y_t (x_call ih (hr.mono (by omega)) (by rfl) Fc.g__law_same Fc.F__law_same.kp (b__law_same Fc) (a_cons (x_v 2) (a_cons (x_v 3) a_nil)))))
    (z_one (z_ret x_bl))
    z_nil)
noncomputable def ms__law_same_6 (rc : List D → Sto → Option (D × Sto)) : MS := (mIfS (mT (mCb fIsi (mCons (mV 1) (mCons (mC (.ty "int")) mNil))))
    (ms__law_same_0 rc)
    mNext)
theorem st__law_same_6 (Fc : Facts P K mg) (n : Nat) (rc : List D → Sto → Option (D × Sto)) (ih : FnOk P w K mg base CX0 (n + 1) Fc.a__law_same Fc.d__law_same ["told", "due"] (spM ⟨K, P, w⟩ rc)) (cdv : Value) (A : Around) (outer : List Env) (s : Shared) (H : Hp) (E : XK) (hr : Room (n + 1) (A.deeper (envOfC "_law_same" (defScope s__law_same) s.heap.objs.size Fc.a__law_same cdv))) : PS (cxOf CX0 P w K mg base N__law_same "_law_same" (defScope s__law_same) Fc.a__law_same cdv A outer s H E).nox (stmtAt (defBody s__law_same) 3) (sM ⟨K, P, w⟩ (ms__law_same_6 rc)) :=
    (z_if (y_t (x_cb c_isi (by rfl) Fc.b_isinstance bt_isinstance (a_cons (x_v 1) (a_cons (x_ty (by rfl) Fc.b_int bt_int) a_nil))))
    (z_one (st__law_same_0 Fc n rc ih cdv A outer s H E hr))
    z_nil)
noncomputable def ms__law_same_8 (rc : List D → Sto → Option (D × Sto)) : MS := (mIfS (mT (mCb fIsi (mCons (mV 1) (mCons (mC (.ty "str")) mNil))))
    (ms__law_same_2 rc)
    mNext)
theorem st__law_same_8 (Fc : Facts P K mg) (n : Nat) (rc : List D → Sto → Option (D × Sto)) (ih : FnOk P w K mg base CX0 (n + 1) Fc.a__law_same Fc.d__law_same ["told", "due"] (spM ⟨K, P, w⟩ rc)) (cdv : Value) (A : Around) (outer : List Env) (s : Shared) (H : Hp) (E : XK) (hr : Room (n + 1) (A.deeper (envOfC "_law_same" (defScope s__law_same) s.heap.objs.size Fc.a__law_same cdv))) : PS (cxOf CX0 P w K mg base N__law_same "_law_same" (defScope s__law_same) Fc.a__law_same cdv A outer s H E).nox (stmtAt (defBody s__law_same) 4) (sM ⟨K, P, w⟩ (ms__law_same_8 rc)) :=
    (z_if (y_t (x_cb c_isi (by rfl) Fc.b_isinstance bt_isinstance (a_cons (x_v 1) (a_cons (x_ty (by rfl) Fc.b_str bt_str) a_nil))))
    (z_one (st__law_same_2 Fc n rc ih cdv A outer s H E hr))
    z_nil)
noncomputable def ms__law_same_10 (rc : List D → Sto → Option (D × Sto)) : MS := (mIfS (mOr (mNot (mT (mCb fIsi (mCons (mV 0) (mCons (mC (.ty "tuple")) mNil))))) (mOr (mNot (mT (mCb fIsi (mCons (mV 1) (mCons (mC (.ty "tuple")) mNil))))) (mTB (mOp fNe (mCb fLen (mCons (mV 0) mNil)) (mCb fLen (mCons (mV 1) mNil))))))
    (mRet (mC (.bl false)))
    mNext)
theorem st__law_same_10 (Fc : Facts P K mg) (n : Nat) (rc : List D → Sto → Option (D × Sto)) (ih : FnOk P w K mg base CX0 (n + 1) Fc.a__law_same Fc.d__law_same ["told", "due"] (spM ⟨K, P, w⟩ rc)) (cdv : Value) (A : Around) (outer : List Env) (s : Shared) (H : Hp) (E : XK) (hr : Room (n + 1) (A.deeper (envOfC "_law_same" (defScope s__law_same) s.heap.objs.size Fc.a__law_same cdv))) : PS (cxOf CX0 P w K mg base N__law_same "_law_same" (defScope s__law_same) Fc.a__law_same cdv A outer s H E).nox (stmtAt (defBody s__law_same) 5) (sM ⟨K, P, w⟩ (ms__law_same_10 rc)) :=
    (z_if (y_or (y_not (y_t (x_cb c_isi (by rfl) Fc.b_isinstance bt_isinstance (a_cons (x_v 0) (a_cons (x_ty (by rfl) Fc.b_tuple bt_tuple) a_nil))))) (y_or (y_not (y_t (x_cb c_isi (by rfl) Fc.b_isinstance bt_isinstance (a_cons (x_v 1) (a_cons (x_ty (by rfl) Fc.b_tuple bt_tuple) a_nil))))) (y_or1 (y_k (k_ne hr) (x_cb c_len (by rfl) Fc.b_len bt_len (a_cons (x_v 0) a_nil)) (x_cb c_len (by rfl) Fc.b_len bt_len (a_cons (x_v 1) a_nil)))))).pt
    (z_one (z_ret x_bl))
    z_nil)
noncomputable def ms__law_same_12 (rc : List D → Sto → Option (D × Sto)) : MS := (mFor (miZip (mCons (mV 0) (mCons (mV 1) mNil))) (.tup [(.name 2), (.name 3)])
    (ms__law_same_4 rc))
theorem st__law_same_12 (Fc : Facts P K mg) (n : Nat) (rc : List D → Sto → Option (D × Sto)) (ih : FnOk P w K mg base CX0 (n + 1) Fc.a__law_same Fc.d__law_same ["told", "due"] (spM ⟨K, P, w⟩ rc)) (cdv : Value) (A : Around) (outer : List Env) (s : Shared) (H : Hp) (E : XK) (hr : Room (n + 1) (A.deeper (envOfC "_law_same" (defScope s__law_same) s.heap.objs.size Fc.a__law_same cdv))) : PS (cxOf CX0 P w K mg base N__law_same "_law_same" (defScope s__law_same) Fc.a__law_same cdv A outer s H E).nox (stmtAt (defBody s__law_same) 6) (sM ⟨K, P, w⟩ (ms__law_same_12 rc)) :=
    (z_for PassesOwn.never rfl (i_zip (by rfl) Fc.b_zip (a_cons (x_v 0) (a_cons (x_v 1) a_nil))) (t_tup rfl (ts_cons (t_name 2 sc__law_same.nd rfl (by first | exact Or.inl rfl | exact Or.inr rfl)) (ts_cons (t_name 3 sc__law_same.nd rfl (by first | exact Or.inl rfl | exact Or.inr rfl)) ts_nil)))
    (z_one (st__law_same_4 Fc n rc ih cdv A outer s H E hr)))
noncomputable def mb__law_same (rc : List D → Sto → Option (D × Sto)) : MS := (mSeq (mIfS (mTB (mOp (fIsN false) (mV 1) (mC .non)))
    (mRet (mOp (fIsN false) (mV 0) (mC .non)))
    mNext)
    (mSeq (mIfS (mTB (mOp (fIsB false) (mV 1) (mC (.bl true))))
    (mRet (mOp (fIsB false) (mV 0) (mC (.bl true))))
    mNext)
    (mSeq (mIfS (mTB (mOp (fIsB false) (mV 1) (mC (.bl false))))
    (mRet (mOp (fIsB false) (mV 0) (mC (.bl false))))
    mNext)
    (mSeq (ms__law_same_6 rc)
    (mSeq (ms__law_same_8 rc)
    (mSeq (ms__law_same_10 rc)
    (mSeq (ms__law_same_12 rc)
    (mRet (mC (.bl true))))))))))
noncomputable def m__law_same : Nat → List D → Sto → Option (D × Sto)
  | 0 => fun _ _ => none
  | n + 1 => mDef 4 2 (mb__law_same (m__law_same n))
theorem ok__law_same : ∀ (n : Nat) (Fc : Facts P K mg), FnOk P w K mg base CX0 (n + 1) Fc.a__law_same Fc.d__law_same ["told", "due"] (spM ⟨K, P, w⟩ (m__law_same n))
  | 0, Fc => x_def0
  | n + 1, Fc => by
    have ih : FnOk P w K mg base CX0 (n + 1) Fc.a__law_same Fc.d__law_same ["told", "due"] (spM ⟨K, P, w⟩ (m__law_same n)) := ok__law_same n Fc
    have e : n + 1 + 1 = (n + 1) + 1 := by omega
    rw [e]
    have rx : ∀ rc, FnOk P w K mg base CX0 (n + 1) Fc.a__law_same Fc.d__law_same ["told", "due"] (spM ⟨K, P, w⟩ rc) → FnOk P w K mg base CX0 (n + 1 + 1) Fc.a__law_same Fc.d__law_same ["told", "due"] (spM ⟨K, P, w⟩ (mDef 4 2 (mb__law_same rc))) := fun rc ih => x_def Fc.F__law_same sc__law_same rfl rfl fun cdv A outer s H E hr =>
      (z_cons (z_if (y_k k_is (x_v 1) x_non)
    (z_one (z_ret (x_k k_is (x_v 0) x_non)))
    z_nil)
    (z_cons (z_if (y_k k_isB (x_v 1) x_bl)
    (z_one (z_ret (x_k k_isB (x_v 0) x_bl)))
    z_nil)
    (z_cons (z_if (y_k k_isB (x_v 1) x_bl)
    (z_one (z_ret (x_k k_isB (x_v 0) x_bl)))
    z_nil)
    (z_cons (st__law_same_6 Fc n rc ih cdv A outer s H E hr)
    (z_cons (st__law_same_8 Fc n rc ih cdv A outer s H E hr)
    (z_cons (st__law_same_10 Fc n rc ih cdv A outer s H E hr)
    (z_cons (st__law_same_12 Fc n rc ih cdv A outer s H E hr)
    (z_one (z_ret x_bl)))))))))
    exact rx _ ih
abbrev N__law_draw : List Str := ["script", "place", "many", "cell", "stirred"]
theorem sc__law_draw : FnScope N__law_draw ["script", "place", "many"] (defScope s__law_draw) := ⟨rfl, rfl, rfl, by decide +kernel, rfl, by decide +kernel, by decide +kernel⟩
noncomputable def ms__law_draw_0 : MS := (mAsg (mOp fMod (mCb fInt (mCons (mOp fIx (mV 0) (mOp fMod (mV 1) (mCb fLen (mCons (mV 0) mNil)))) mNil)) (mC (.int 1000003))) (mgName 3))
theorem st__law_draw_0 (Fc : Facts P K mg) (cdv : Value) (A : Around) (outer : List Env) (s : Shared) (H : Hp) (E : XK) (hr : Room (0) (A.deeper (envOfC "_law_draw" (defScope s__law_draw) s.heap.objs.size Fc.a__law_draw cdv))) : PS (cxOf CX0 P w K mg base N__law_draw "_law_draw" (defScope s__law_draw) Fc.a__law_draw cdv A outer s H E).nox (stmtAt (bodyOf (stmtAt (defBody s__law_draw) 1)) 0) (sM ⟨K, P, w⟩ (ms__law_draw_0)) :=
    (z_set 3 sc__law_draw.nd rfl (by first | exact Or.inl rfl | exact Or.inr rfl) (x_mod (x_ct c_int (by rfl) Fc.b_int bt_int (a_cons (x_ix (x_v 0) (x_mod (x_v 1) (x_cb c_len (by rfl) Fc.b_len bt_len (a_cons (x_v 0) a_nil)))) a_nil)) x_int))
noncomputable def ms__law_draw_2 : MS := (mAsg (mOp (fAdd false) (mOp (fAdd false) (mOp (fMul false) (mV 3) (mC (.int 613))) (mOp (fMul false) (mV 1) (mC (.int 7919)))) (mC (.int 271))) (mgName 4))
theorem st__law_draw_2 (Fc : Facts P K mg) (cdv : Value) (A : Around) (outer : List Env) (s : Shared) (H : Hp) (E : XK) (hr : Room (0) (A.deeper (envOfC "_law_draw" (defScope s__law_draw) s.heap.objs.size Fc.a__law_draw cdv))) : PS (cxOf CX0 P w K mg base N__law_draw "_law_draw" (defScope s__law_draw) Fc.a__law_draw cdv A outer s H E).nox (stmtAt (defBody s__law_draw) 2) (sM ⟨K, P, w⟩ (ms__law_draw_2)) :=
    (z_set 4 sc__law_draw.nd rfl (by first | exact Or.inl rfl | exact Or.inr rfl) (x_add false (x_add false (x_mul false (x_v 3) x_int) (x_mul false (x_v 1) x_int)) x_int))
noncomputable def m__law_draw : List D → Sto → Option (D × Sto) := mDef 5 3 (mSeq (mAsg (mC (.int 0)) (mgName 3))
    (mSeq (mIfS (mTB (mOp fGt (mCb fLen (mCons (mV 0) mNil)) (mC (.int 0))))
    (ms__law_draw_0)
    mNext)
    (mSeq (ms__law_draw_2)
    (mSeq (mAsg (mOp fMod (mOp (fMul false) (mV 4) (mV 4)) (mC (.int 999983))) (mgName 4))
    (mRet (mOp fMod (mOp (fAdd false) (mOp fDiv (mV 4) (mC (.int 7))) (mV 4)) (mV 2)))))))
theorem ok__law_draw (Fc : Facts P K mg) : FnOk P w K mg base CX0 1 Fc.a__law_draw Fc.d__law_draw ["script", "place", "many"] (spM ⟨K, P, w⟩ m__law_draw) := x_def (k := 0) Fc.F__law_draw sc__law_draw rfl rfl fun cdv A outer s H E hr =>
    (z_cons (z_set 3 sc__law_draw.nd rfl (by first | exact Or.inl rfl | exact Or.inr rfl) x_int)
    (z_cons (z_if (y_k k_gt (x_cb c_len (by rfl) Fc.b_len bt_len (a_cons (x_v 0) a_nil)) x_int)
    (z_one (st__law_draw_0 Fc cdv A outer s H E hr))
    z_nil)
    (z_cons (st__law_draw_2 Fc cdv A outer s H E hr)
    (z_cons (z_set 4 sc__law_draw.nd rfl (by first | exact Or.inl rfl | exact Or.inr rfl) (x_mod (x_mul false (x_v 4) (x_v 4)) x_int))
    (z_one (z_ret (x_mod (x_add false (x_fdiv (x_v 4) x_int) (x_v 4)) (x_v 2))))))))
abbrev N__law_words : List Str := []
theorem sc__law_words : FnScope N__law_words [] (defScope s__law_words) := ⟨rfl, rfl, rfl, by decide +kernel, rfl, by decide +kernel, by decide +kernel⟩
noncomputable def ms__law_words_0 : MS := (mRet (mLst false (mCons (mC (.str "good")) (mCons (mC (.str "start")) (mCons (mC (.str "offer")) (mCons (mC (.str "other")) (mCons (mC (.str "house")) (mCons (mC (.str "least")) (mCons (mC (.str "most")) (mCons (mC (.str "from")) (mCons (mC (.str "turn")) (mCons (mC (.str "rests")) (mCons (mC (.str "none")) (mCons (mC (.str "never")) (mCons (mC (.str "may")) (mCons (mC (.str "deal")) (mCons (mC (.str "join")) mNil)))))))))))))))))
theorem st__law_words_0 (Fc : Facts P K mg) (cdv : Value) (A : Around) (outer : List Env) (s : Shared) (H : Hp) (E : XK) (hr : Room (0) (A.deeper (envOfC "_law_words" (defScope s__law_words) s.heap.objs.size Fc.a__law_words cdv))) : PS (cxOf CX0 P w K mg base N__law_words "_law_words" (defScope s__law_words) Fc.a__law_words cdv A outer s H E).nox (stmtAt (defBody s__law_words) 0) (sM ⟨K, P, w⟩ (ms__law_words_0)) :=
    (z_ret (x_lst false (a_cons x_str (a_cons x_str (a_cons x_str (a_cons x_str (a_cons x_str (a_cons x_str (a_cons x_str (a_cons x_str (a_cons x_str (a_cons x_str (a_cons x_str (a_cons x_str (a_cons x_str (a_cons x_str (a_cons x_str a_nil)))))))))))))))))
noncomputable def m__law_words : List D → Sto → Option (D × Sto) := mDef 0 0 (ms__law_words_0)
theorem ok__law_words (Fc : Facts P K mg) : FnOk P w K mg base CX0 1 Fc.a__law_words Fc.d__law_words [] (spM ⟨K, P, w⟩ m__law_words) := x_def (k := 0) Fc.F__law_words sc__law_words rfl rfl fun cdv A outer s H E hr =>
    (z_one (st__law_words_0 Fc cdv A outer s H E hr))
abbrev N__law_name : List Str := ["script", "place", "index", "signs", "size", "name", "k"]
theorem sc__law_name : FnScope N__law_name ["script", "place", "index"] (defScope s__law_name) := ⟨rfl, rfl, rfl, by decide +kernel, rfl, by decide +kernel, by decide +kernel⟩
noncomputable def ms__law_name_0 : MS := (mAsg (mOp (fAdd false) (mV 5) (mOp fIxA (mV 3) (mCb m__law_draw (mCons (mV 0) (mCons (mOp (fAdd false) (mOp (fAdd false) (mV 1) (mC (.int 2))) (mV 6)) (mCons (mC (.int 36)) mNil)))))) (mgName 5))
theorem st__law_name_0 (Fc : Facts P K mg) (cdv : Value) (A : Around) (outer : List Env) (s : Shared) (H : Hp) (E : XK) (hr : Room (1) (A.deeper (envOfC "_law_name" (defScope s__law_name) s.heap.objs.size Fc.a__law_name cdv))) : PS (cxOf CX0 P w K mg base N__law_name "_law_name" (defScope s__law_name) Fc.a__law_name cdv A outer s H E).nox (stmtAt (bodyOf (stmtAt (bodyOf (stmtAt (defBody s__law_name) 3)) 1)) 0) (sM ⟨K, P, w⟩ (ms__law_name_0)) :=
    (z_set 5 sc__law_name.nd rfl (by first | exact Or.inl rfl | exact Or.inr rfl) (x_add false (x_v 5) (x_ixA (x_v 3) (x_call (ok__law_draw Fc) (hr.mono (by decide)) (by rfl) Fc.g__law_draw Fc.F__law_draw.kp (b__law_draw Fc) (a_cons (x_v 0) (a_cons (x_add false (x_add false (x_v 1) x_int) (x_v 6)) (a_cons x_int a_nil)))))))
noncomputable def ms__law_name_2 : MS := (mAsg (mOp fIxA (mV 3) (mCb m__law_draw (mCons (mV 0) (mCons (mOp (fAdd false) (mV 1) (mC (.int 1))) (mCons (mC (.int 26)) mNil))))) (mgName 5))
theorem st__law_name_2 (Fc : Facts P K mg) (cdv : Value) (A : Around) (outer : List Env) (s : Shared) (H : Hp) (E : XK) (hr : Room (1) (A.deeper (envOfC "_law_name" (defScope s__law_name) s.heap.objs.size Fc.a__law_name cdv))) : PS (cxOf CX0 P w K mg base N__law_name "_law_name" (defScope s__law_name) Fc.a__law_name cdv A outer s H E).nox (stmtAt (bodyOf (stmtAt (defBody s__law_name) 3)) 0) (sM ⟨K, P, w⟩ (ms__law_name_2)) :=
    (z_set 5 sc__law_name.nd rfl (by first | exact Or.inl rfl | exact Or.inr rfl) (x_ixA (x_v 3) (x_call (ok__law_draw Fc) (hr.mono (by decide)) (by rfl) Fc.g__law_draw Fc.F__law_draw.kp (b__law_draw Fc) (a_cons (x_v 0) (a_cons (x_add false (x_v 1) x_int) (a_cons x_int a_nil))))))
noncomputable def ms__law_name_4 : MS := (mFor (miRng1 (mCons (mOp fSub (mV 4) (mC (.int 2))) mNil)) (.name 6)
    (ms__law_name_0))
theorem st__law_name_4 (Fc : Facts P K mg) (cdv : Value) (A : Around) (outer : List Env) (s : Shared) (H : Hp) (E : XK) (hr : Room (1) (A.deeper (envOfC "_law_name" (defScope s__law_name) s.heap.objs.size Fc.a__law_name cdv))) : PS (cxOf CX0 P w K mg base N__law_name "_law_name" (defScope s__law_name) Fc.a__law_name cdv A outer s H E).nox (stmtAt (bodyOf (stmtAt (defBody s__law_name) 3)) 1) (sM ⟨K, P, w⟩ (ms__law_name_4)) :=
    (z_for PassesOwn.never rfl (i_rng1 (by rfl) Fc.b_range (a_cons (x_sub (x_v 4) x_int) a_nil)) (t_name 6 sc__law_name.nd rfl (by first | exact Or.inl rfl | exact Or.inr rfl))
    (z_one (st__law_name_0 Fc cdv A outer s H E hr)))
noncomputable def ms__law_name_6 : MS := (mAsg (mCb m__law_draw (mCons (mV 0) (mCons (mV 1) (mCons (mC (.int 9)) mNil)))) (mgName 4))
theorem st__law_name_6 (Fc : Facts P K mg) (cdv : Value) (A : Around) (outer : List Env) (s : Shared) (H : Hp) (E : XK) (hr : Room (1) (A.deeper (envOfC "_law_name" (defScope s__law_name) s.heap.objs.size Fc.a__law_name cdv))) : PS (cxOf CX0 P w K mg base N__law_name "_law_name" (defScope s__law_name) Fc.a__law_name cdv A outer s H E).nox (stmtAt (defBody s__law_name) 1) (sM ⟨K, P, w⟩ (ms__law_name_6)) :=
    (z_set 4 sc__law_name.nd rfl (by first | exact Or.inl rfl | exact Or.inr rfl) (x_call (ok__law_draw Fc) (hr.mono (by decide)) (by rfl) Fc.g__law_draw Fc.F__law_draw.kp (b__law_draw Fc) (a_cons (x_v 0) (a_cons (x_v 1) (a_cons x_int a_nil)))))
noncomputable def ms__law_name_8 : MS := (mIfS (mOr (mTB (mOp fGt (mV 4) (mC (.int 1)))) (mTB (mOp fGt (mV 2) (mC (.int 25)))))
    (mSeq (ms__law_name_2)
    (mSeq (ms__law_name_4)
    (mAsg (mOp (fAdd false) (mV 5) (mOp fIxA (mV 3) (mV 2))) (mgName 5))))
    mNext)
theorem st__law_name_8 (Fc : Facts P K mg) (cdv : Value) (A : Around) (outer : List Env) (s : Shared) (H : Hp) (E : XK) (hr : Room (1) (A.deeper (envOfC "_law_name" (defScope s__law_name) s.heap.objs.size Fc.a__law_name cdv))) : PS (cxOf CX0 P w K mg base N__law_name "_law_name" (defScope s__law_name) Fc.a__law_name cdv A outer s H E).nox (stmtAt (defBody s__law_name) 3) (sM ⟨K, P, w⟩ (ms__law_name_8)) :=
    (z_if (y_or (y_k k_gt (x_v 4) x_int) (y_or1 (y_k k_gt (x_v 2) x_int))).pt
    (z_cons (st__law_name_2 Fc cdv A outer s H E hr)
    (z_cons (st__law_name_4 Fc cdv A outer s H E hr)
    (z_one (z_set 5 sc__law_name.nd rfl (by first | exact Or.inl rfl | exact Or.inr rfl) (x_add false (x_v 5) (x_ixA (x_v 3) (x_v 2)))))))
    z_nil)
noncomputable def ms__law_name_10 : MS := (mIfS (mTB (mOp (fIn false) (mV 5) (mCb m__law_words mNil)))
    (mAsg (mOp (fAdd false) (mC (.str "q")) (mV 5)) (mgName 5))
    mNext)
theorem st__law_name_10 (Fc : Facts P K mg) (cdv : Value) (A : Around) (outer : List Env) (s : Shared) (H : Hp) (E : XK) (hr : Room (1) (A.deeper (envOfC "_law_name" (defScope s__law_name) s.heap.objs.size Fc.a__law_name cdv))) : PS (cxOf CX0 P w K mg base N__law_name "_law_name" (defScope s__law_name) Fc.a__law_name cdv A outer s H E).nox (stmtAt (defBody s__law_name) 4) (sM ⟨K, P, w⟩ (ms__law_name_10)) :=
    (z_if (y_k k_in (x_v 5) (x_call0 (ok__law_words Fc) (hr.mono (by decide)) (by rfl) Fc.g__law_words Fc.F__law_words.kp (b__law_words Fc)))
    (z_one (z_set 5 sc__law_name.nd rfl (by first | exact Or.inl rfl | exact Or.inr rfl) (x_add false x_str (x_v 5))))
    z_nil)
noncomputable def m__law_name : List D → Sto → Option (D × Sto) := mDef 7 3 (mSeq (mAsg (mC (.str "abcdefghijklmnopqrstuvwxyz0123456789")) (mgName 3))
    (mSeq (ms__law_name_6)
    (mSeq (mAsg (mOp fIxA (mV 3) (mV 2)) (mgName 5))
    (mSeq (ms__law_name_8)
    (mSeq (ms__law_name_10)
    (mRet (mV 5)))))))
theorem ok__law_name (Fc : Facts P K mg) : FnOk P w K mg base CX0 2 Fc.a__law_name Fc.d__law_name ["script", "place", "index"] (spM ⟨K, P, w⟩ m__law_name) := x_def (k := 1) Fc.F__law_name sc__law_name rfl rfl fun cdv A outer s H E hr =>
    (z_cons (z_set 3 sc__law_name.nd rfl (by first | exact Or.inl rfl | exact Or.inr rfl) x_str)
    (z_cons (st__law_name_6 Fc cdv A outer s H E hr)
    (z_cons (z_set 5 sc__law_name.nd rfl (by first | exact Or.inl rfl | exact Or.inr rfl) (x_ixA (x_v 3) (x_v 2)))
    (z_cons (st__law_name_8 Fc cdv A outer s H E hr)
    (z_cons (st__law_name_10 Fc cdv A outer s H E hr)
    (z_one (z_ret (x_v 5))))))))
abbrev N__law_names : List Str := ["script", "place", "many", "turn", "first", "k"]
theorem sc__law_names : FnScope N__law_names ["script", "place", "many"] (defScope s__law_names) := ⟨rfl, rfl, rfl, by decide +kernel, rfl, by decide +kernel, by decide +kernel⟩
noncomputable def ms__law_names_0 : MS := (mAsg (mOp fIx (mLst false (mCons (mC (.int 1)) (mCons (mC (.int 5)) (mCons (mC (.int 7)) (mCons (mC (.int 11)) (mCons (mC (.int 13)) (mCons (mC (.int 17)) (mCons (mC (.int 19)) (mCons (mC (.int 23)) (mCons (mC (.int 25)) (mCons (mC (.int 29)) (mCons (mC (.int 31)) (mCons (mC (.int 35)) mNil))))))))))))) (mCb m__law_draw (mCons (mV 0) (mCons (mV 1) (mCons (mC (.int 12)) mNil))))) (mgName 3))
theorem st__law_names_0 (Fc : Facts P K mg) (cdv : Value) (A : Around) (outer : List Env) (s : Shared) (H : Hp) (E : XK) (hr : Room (2) (A.deeper (envOfC "_law_names" (defScope s__law_names) s.heap.objs.size Fc.a__law_names cdv))) : PS (cxOf CX0 P w K mg base N__law_names "_law_names" (defScope s__law_names) Fc.a__law_names cdv A outer s H E).nox (stmtAt (defBody s__law_names) 0) (sM ⟨K, P, w⟩ (ms__law_names_0)) :=
    (z_set 3 sc__law_names.nd rfl (by first | exact Or.inl rfl | exact Or.inr rfl) (x_ix (x_lst false (a_cons x_int (a_cons x_int (a_cons x_int (a_cons x_int (a_cons x_int (a_cons x_int (a_cons x_int (a_cons x_int (a_cons x_int (a_cons x_int (a_cons x_int (a_cons x_int a_nil))))))))))))) (x_call (ok__law_draw Fc) (hr.mono (by decide)) (by rfl) Fc.g__law_draw Fc.F__law_draw.kp (b__law_draw Fc) (a_cons (x_v 0) (a_cons (x_v 1) (a_cons x_int a_nil))))))
noncomputable def ms__law_names_2 : MS := (mAsg (mCb m__law_draw (mCons (mV 0) (mCons (mOp (fAdd false) (mV 1) (mC (.int 1))) (mCons (mC (.int 36)) mNil)))) (mgName 4))
theorem st__law_names_2 (Fc : Facts P K mg) (cdv : Value) (A : Around) (outer : List Env) (s : Shared) (H : Hp) (E : XK) (hr : Room (2) (A.deeper (envOfC "_law_names" (defScope s__law_names) s.heap.objs.size Fc.a__law_names cdv))) : PS (cxOf CX0 P w K mg base N__law_names "_law_names" (defScope s__law_names) Fc.a__law_names cdv A outer s H E).nox (stmtAt (defBody s__law_names) 1) (sM ⟨K, P, w⟩ (ms__law_names_2)) :=
    (z_set 4 sc__law_names.nd rfl (by first | exact Or.inl rfl | exact Or.inr rfl) (x_call (ok__law_draw Fc) (hr.mono (by decide)) (by rfl) Fc.g__law_draw Fc.F__law_draw.kp (b__law_draw Fc) (a_cons (x_v 0) (a_cons (x_add false (x_v 1) x_int) (a_cons x_int a_nil)))))
noncomputable def ms__law_names_4 : MS := (mRet (mLc false (miRng1 (mCons (mV 2) mNil)) (.name 5) mYes (mCb m__law_name (mCons (mV 0) (mCons (mOp (fAdd false) (mOp (fAdd false) (mV 1) (mC (.int 2))) (mOp (fMul false) (mC (.int 11)) (mV 5))) (mCons (mOp fMod (mOp (fAdd false) (mV 4) (mOp (fMul false) (mV 3) (mV 5))) (mC (.int 36))) mNil)))) [5]))
theorem st__law_names_4 (Fc : Facts P K mg) (cdv : Value) (A : Around) (outer : List Env) (s : Shared) (H : Hp) (E : XK) (hr : Room (2) (A.deeper (envOfC "_law_names" (defScope s__law_names) s.heap.objs.size Fc.a__law_names cdv))) : PS (cxOf CX0 P w K mg base N__law_names "_law_names" (defScope s__law_names) Fc.a__law_names cdv A outer s H E).nox (stmtAt (defBody s__law_names) 2) (sM ⟨K, P, w⟩ (ms__law_names_4)) :=
    (z_ret (x_lc false (T := (.name 5)) (own := [("k", 5)]) rfl sc__law_names.nd (i_rng1 (by rfl) Fc.b_range (a_cons (x_v 2) a_nil)) (by first | exact blkOk_by (N := N__law_names) (sc := defScope s__law_names) (by decide +kernel) | exact blkOk_by (by kernel_rfl)) rfl (fun _ _ _ _ _ => (t_name 5 sc__law_names.nd rfl (by first | exact Or.inl rfl | exact Or.inr rfl))) (fun _ _ _ _ _ => cs_nil) (fun _ _ _ _ _ => (x_call (ok__law_name Fc) (hr.mono (by decide)) (by rfl) Fc.g__law_name Fc.F__law_name.kp (b__law_name Fc) (a_cons (x_v 0) (a_cons (x_add false (x_add false (x_v 1) x_int) (x_mul false x_int (x_v 5))) (a_cons (x_mod (x_add false (x_v 4) (x_mul false (x_v 3) (x_v 5))) x_int) a_nil)))))))
noncomputable def m__law_names : List D → Sto → Option (D × Sto) := mDef 6 3 (mSeq (ms__law_names_0)
    (mSeq (ms__law_names_2)
    (ms__law_names_4)))
theorem ok__law_names (Fc : Facts P K mg) : FnOk P w K mg base CX0 3 Fc.a__law_names Fc.d__law_names ["script", "place", "many"] (spM ⟨K, P, w⟩ m__law_names) := x_def (k := 2) Fc.F__law_names sc__law_names rfl rfl fun cdv A outer s H E hr =>
    (z_cons (st__law_names_0 Fc cdv A outer s H E hr)
    (z_cons (st__law_names_2 Fc cdv A outer s H E hr)
    (z_one (st__law_names_4 Fc cdv A outer s H E hr))))
abbrev N__law_is_name : List Str := ["thing", "k", "sign"]
theorem sc__law_is_name : FnScope N__law_is_name ["thing"] (defScope s__law_is_name) := ⟨rfl, rfl, rfl, by decide +kernel, rfl, by decide +kernel, by decide +kernel⟩
noncomputable def ms__law_is_name_0 : MS := (mIfS (mAnd (mTB (mOp (fInT true) (mV 2) (mC (.str "abcdefghijklmnopqrstuvwxyz")))) (mOr (mTB (mOp fEq (mV 1) (mC (.int 0)))) (mTB (mOp (fInT true) (mV 2) (mC (.str "0123456789"))))))
    (mRet (mC (.bl false)))
    mNext)
theorem st__law_is_name_0 (Fc : Facts P K mg) (cdv : Value) (A : Around) (outer : List Env) (s : Shared) (H : Hp) (E : XK) (hr : Room (1) (A.deeper (envOfC "_law_is_name" (defScope s__law_is_name) s.heap.objs.size Fc.a__law_is_name cdv))) : PS (cxOf CX0 P w K mg base N__law_is_name "_law_is_name" (defScope s__law_is_name) Fc.a__law_is_name cdv A outer s H E).nox (stmtAt (bodyOf (stmtAt (defBody s__law_is_name) 1)) 0) (sM ⟨K, P, w⟩ (ms__law_is_name_0)) :=
    (z_if (y_and (y_k k_niT (x_v 2) x_str) (y_and1 (y_or (y_k (k_eq hr) (x_v 1) x_int) (y_or1 (y_k k_niT (x_v 2) x_str))).pt)).pt
    (z_one (z_ret x_bl))
    z_nil)
noncomputable def ms__law_is_name_2 : MS := (mIfS (mOr (mTB (mOp fLt (mCb fLen (mCons (mV 0) mNil)) (mC (.int 1)))) (mOr (mTB (mOp fGt (mCb fLen (mCons (mV 0) mNil)) (mC (.int 8)))) (mTB (mOp (fIn false) (mV 0) (mCb m__law_words mNil)))))
    (mRet (mC (.bl false)))
    mNext)
theorem st__law_is_name_2 (Fc : Facts P K mg) (cdv : Value) (A : Around) (outer : List Env) (s : Shared) (H : Hp) (E : XK) (hr : Room (1) (A.deeper (envOfC "_law_is_name" (defScope s__law_is_name) s.heap.objs.size Fc.a__law_is_name cdv))) : PS (cxOf CX0 P w K mg base N__law_is_name "_law_is_name" (defScope s__law_is_name) Fc.a__law_is_name cdv A outer s H E).nox (stmtAt (defBody s__law_is_name) 0) (sM ⟨K, P, w⟩ (ms__law_is_name_2)) :=
    (z_if (y_or (y_k k_lt (x_cb c_len (by rfl) Fc.b_len bt_len (a_cons (x_v 0) a_nil)) x_int) (y_or (y_k k_gt (x_cb c_len (by rfl) Fc.b_len bt_len (a_cons (x_v 0) a_nil)) x_int) (y_or1 (y_k k_in (x_v 0) (x_call0 (ok__law_words Fc) (hr.mono (by decide)) (by rfl) Fc.g__law_words Fc.F__law_words.kp (b__law_words Fc)))))).pt
    (z_one (z_ret x_bl))
    z_nil)
noncomputable def ms__law_is_name_4 : MS := (mFor (miEnumS (mCons (mV 0) mNil)) (.tup [(.name 1), (.name 2)])
    (ms__law_is_name_0))
theorem st__law_is_name_4 (Fc : Facts P K mg) (cdv : Value) (A : Around) (outer : List Env) (s : Shared) (H : Hp) (E : XK) (hr : Room (1) (A.deeper (envOfC "_law_is_name" (defScope s__law_is_name) s.heap.objs.size Fc.a__law_is_name cdv))) : PS (cxOf CX0 P w K mg base N__law_is_name "_law_is_name" (defScope s__law_is_name) Fc.a__law_is_name cdv A outer s H E).nox (stmtAt (defBody s__law_is_name) 1) (sM ⟨K, P, w⟩ (ms__law_is_name_4)) :=
    (z_for PassesOwn.never rfl (i_enumS (by rfl) Fc.b_enumerate (a_cons (x_v 0) a_nil)) (t_tup rfl (ts_cons (t_name 1 sc__law_is_name.nd rfl (by first | exact Or.inl rfl | exact Or.inr rfl)) (ts_cons (t_name 2 sc__law_is_name.nd rfl (by first | exact Or.inl rfl | exact Or.inr rfl)) ts_nil)))
    (z_one (st__law_is_name_0 Fc cdv A outer s H E hr)))
noncomputable def m__law_is_name : List D → Sto → Option (D × Sto) := mDef 3 1 (mSeq (ms__law_is_name_2)
    (mSeq (ms__law_is_name_4)
    (mRet (mC (.bl true)))))
theorem ok__law_is_name (Fc : Facts P K mg) : FnOk P w K mg base CX0 2 Fc.a__law_is_name Fc.d__law_is_name ["thing"] (spM ⟨K, P, w⟩ m__law_is_name) := x_def (k := 1) Fc.F__law_is_name sc__law_is_name rfl rfl fun cdv A outer s H E hr =>
    (z_cons (st__law_is_name_2 Fc cdv A outer s H E hr)
    (z_cons (st__law_is_name_4 Fc cdv A outer s H E hr)
    (z_one (z_ret x_bl))))
abbrev N__law_market : List Str := ["script", "goods", "starts", "k", "side", "holding"]
theorem sc__law_market : FnScope N__law_market ["script"] (defScope s__law_market) := ⟨rfl, rfl, rfl, by decide +kernel, rfl, by decide +kernel, by decide +kernel⟩
noncomputable def ms__law_market_0 : MS := (mAsg (mTup (mCons (mOp fIx (mV 1) (mCb m__law_draw (mCons (mV 0) (mCons (mOp (fAdd false) (mC (.int 60)) (mV 3)) (mCons (mCb fLen (mCons (mV 1) mNil)) mNil))))) (mCons (mOp fIx (mLst false (mCons (mC (.int 0)) (mCons (mC (.int 1)) (mCons (mC (.int 2)) (mCons (mC (.int 3)) (mCons (mC (.int 5)) (mCons (mC (.int 12)) mNil))))))) (mCb m__law_draw (mCons (mV 0) (mCons (mOp (fAdd false) (mC (.int 64)) (mV 3)) (mCons (mC (.int 6)) mNil))))) mNil))) (mgName 5))
theorem st__law_market_0 (Fc : Facts P K mg) (cdv : Value) (A : Around) (outer : List Env) (s : Shared) (H : Hp) (E : XK) (hr : Room (3) (A.deeper (envOfC "_law_market" (defScope s__law_market) s.heap.objs.size Fc.a__law_market cdv))) : PS (cxOf CX0 P w K mg base N__law_market "_law_market" (defScope s__law_market) Fc.a__law_market cdv A outer s H E).nox (stmtAt (bodyOf (stmtAt (defBody s__law_market) 2)) 0) (sM ⟨K, P, w⟩ (ms__law_market_0)) :=
    (z_set 5 sc__law_market.nd rfl (by first | exact Or.inl rfl | exact Or.inr rfl) (x_tup (a_cons (x_ix (x_v 1) (x_call (ok__law_draw Fc) (hr.mono (by decide)) (by rfl) Fc.g__law_draw Fc.F__law_draw.kp (b__law_draw Fc) (a_cons (x_v 0) (a_cons (x_add false x_int (x_v 3)) (a_cons (x_cb c_len (by rfl) Fc.b_len bt_len (a_cons (x_v 1) a_nil)) a_nil))))) (a_cons (x_ix (x_lst false (a_cons x_int (a_cons x_int (a_cons x_int (a_cons x_int (a_cons x_int (a_cons x_int a_nil))))))) (x_call (ok__law_draw Fc) (hr.mono (by decide)) (by rfl) Fc.g__law_draw Fc.F__law_draw.kp (b__law_draw Fc) (a_cons (x_v 0) (a_cons (x_add false x_int (x_v 3)) (a_cons x_int a_nil))))) a_nil))))
noncomputable def ms__law_market_2 : MS := (mAsg (mCb (fSortA false) (mCons (mCb m__law_names (mCons (mV 0) (mCons (mC (.int 10)) (mCons (mOp (fAdd false) (mC (.int 1)) (mCb m__law_draw (mCons (mV 0) (mCons (mC (.int 1)) (mCons (mC (.int 3)) mNil))))) mNil)))) mNil)) (mgName 1))
theorem st__law_market_2 (Fc : Facts P K mg) (cdv : Value) (A : Around) (outer : List Env) (s : Shared) (H : Hp) (E : XK) (hr : Room (3) (A.deeper (envOfC "_law_market" (defScope s__law_market) s.heap.objs.size Fc.a__law_market cdv))) : PS (cxOf CX0 P w K mg base N__law_market "_law_market" (defScope s__law_market) Fc.a__law_market cdv A outer s H E).nox (stmtAt (defBody s__law_market) 0) (sM ⟨K, P, w⟩ (ms__law_market_2)) :=
    (z_set 1 sc__law_market.nd rfl (by first | exact Or.inl rfl | exact Or.inr rfl) (x_cb (c_sortA hr false) (by rfl) Fc.b_sorted bt_sorted (a_cons (x_call (ok__law_names Fc) (hr.mono (by decide)) (by rfl) Fc.g__law_names Fc.F__law_names.kp (b__law_names Fc) (a_cons (x_v 0) (a_cons x_int (a_cons (x_add false x_int (x_call (ok__law_draw Fc) (hr.mono (by decide)) (by rfl) Fc.g__law_draw Fc.F__law_draw.kp (b__law_draw Fc) (a_cons (x_v 0) (a_cons x_int (a_cons x_int a_nil))))) a_nil)))) a_nil)))
noncomputable def ms__law_market_4 : MS := (mFor (miRng1 (mCons (mOp (fAdd false) (mC (.int 1)) (mCb m__law_draw (mCons (mV 0) (mCons (mC (.int 2)) (mCons (mC (.int 3)) mNil))))) mNil)) (.name 3)
    (mSeq (ms__law_market_0)
    (mIfS (mTB (mOp (fInD true) (mV 5) (mV 2)))
    (mDrop (mMt fAppend (mV 2) (mCons (mV 5) mNil)))
    mNext)))
theorem st__law_market_4 (Fc : Facts P K mg) (cdv : Value) (A : Around) (outer : List Env) (s : Shared) (H : Hp) (E : XK) (hr : Room (3) (A.deeper (envOfC "_law_market" (defScope s__law_market) s.heap.objs.size Fc.a__law_market cdv))) : PS (cxOf CX0 P w K mg base N__law_market "_law_market" (defScope s__law_market) Fc.a__law_market cdv A outer s H E).nox (stmtAt (defBody s__law_market) 2) (sM ⟨K, P, w⟩ (ms__law_market_4)) :=
    (z_for PassesOwn.never rfl (i_rng1 (by rfl) Fc.b_range (a_cons (x_add false x_int (x_call (ok__law_draw Fc) (hr.mono (by decide)) (by rfl) Fc.g__law_draw Fc.F__law_draw.kp (b__law_draw Fc) (a_cons (x_v 0) (a_cons x_int (a_cons x_int a_nil))))) a_nil)) (t_name 3 sc__law_market.nd rfl (by first | exact Or.inl rfl | exact Or.inr rfl))
    (z_cons (st__law_market_0 Fc cdv A outer s H E hr)
    (z_one (z_if (y_k (k_niD hr) (x_v 5) (x_v 2))
    (z_one (z_expr (x_append (x_v 2) (a_cons (x_v 5) a_nil))))
    z_nil))))
noncomputable def ms__law_market_6 : MS := (mAsg (mTup (mCons (mOp fIx (mV 1) (mC (.int 0))) (mCons (mCb m__law_draw (mCons (mV 0) (mCons (mC (.int 68)) (mCons (mC (.int 13)) mNil)))) (mCons (mC .non) (mCons (mOp fIx (mV 1) (mUn fNeg (mC (.int 1)))) (mCons (mCb m__law_draw (mCons (mV 0) (mCons (mC (.int 69)) (mCons (mC (.int 6)) mNil)))) mNil)))))) (mgName 4))
theorem st__law_market_6 (Fc : Facts P K mg) (cdv : Value) (A : Around) (outer : List Env) (s : Shared) (H : Hp) (E : XK) (hr : Room (3) (A.deeper (envOfC "_law_market" (defScope s__law_market) s.heap.objs.size Fc.a__law_market cdv))) : PS (cxOf CX0 P w K mg base N__law_market "_law_market" (defScope s__law_market) Fc.a__law_market cdv A outer s H E).nox (stmtAt (defBody s__law_market) 3) (sM ⟨K, P, w⟩ (ms__law_market_6)) :=
    (z_set 4 sc__law_market.nd rfl (by first | exact Or.inl rfl | exact Or.inr rfl) (x_tup (a_cons (x_ix (x_v 1) x_int) (a_cons (x_call (ok__law_draw Fc) (hr.mono (by decide)) (by rfl) Fc.g__law_draw Fc.F__law_draw.kp (b__law_draw Fc) (a_cons (x_v 0) (a_cons x_int (a_cons x_int a_nil)))) (a_cons x_non (a_cons (x_ix (x_v 1) (x_neg x_int)) (a_cons (x_call (ok__law_draw Fc) (hr.mono (by decide)) (by rfl) Fc.g__law_draw Fc.F__law_draw.kp (b__law_draw Fc) (a_cons (x_v 0) (a_cons x_int (a_cons x_int a_nil)))) a_nil)))))))
noncomputable def ms__law_market_8 : MS := (mRet (mTup (mCons (mCb fTuple (mCons (mV 1) mNil)) (mCons (mCb fTuple (mCons (mCb (fSortA false) (mCons (mV 2) mNil)) mNil)) (mCons (mTup (mCons (mTup (mCons (mC (.str "grow")) (mCons (mV 4) (mCons (mC .non) mNil)))) mNil)) mNil)))))
theorem st__law_market_8 (Fc : Facts P K mg) (cdv : Value) (A : Around) (outer : List Env) (s : Shared) (H : Hp) (E : XK) (hr : Room (3) (A.deeper (envOfC "_law_market" (defScope s__law_market) s.heap.objs.size Fc.a__law_market cdv))) : PS (cxOf CX0 P w K mg base N__law_market "_law_market" (defScope s__law_market) Fc.a__law_market cdv A outer s H E).nox (stmtAt (defBody s__law_market) 4) (sM ⟨K, P, w⟩ (ms__law_market_8)) :=
    (z_ret (x_tup (a_cons (x_ct c_tuple (by rfl) Fc.b_tuple bt_tuple (a_cons (x_v 1) a_nil)) (a_cons (x_ct c_tuple (by rfl) Fc.b_tuple bt_tuple (a_cons (x_cb (c_sortA hr false) (by rfl) Fc.b_sorted bt_sorted (a_cons (x_v 2) a_nil)) a_nil)) (a_cons (x_tup (a_cons (x_tup (a_cons x_str (a_cons (x_v 4) (a_cons x_non a_nil)))) a_nil)) a_nil)))))
noncomputable def m__law_market : List D → Sto → Option (D × Sto) := mDef 6 1 (mSeq (ms__law_market_2)
    (mSeq (mAsg (mLst true mNil) (mgName 2))
    (mSeq (ms__law_market_4)
    (mSeq (ms__law_market_6)
    (ms__law_market_8)))))
theorem ok__law_market (Fc : Facts P K mg) : FnOk P w K mg base CX0 4 Fc.a__law_market Fc.d__law_market ["script"] (spM ⟨K, P, w⟩ m__law_market) := x_def (k := 3) Fc.F__law_market sc__law_market rfl rfl fun cdv A outer s H E hr =>
    (z_cons (st__law_market_2 Fc cdv A outer s H E hr)
    (z_cons (z_set 2 sc__law_market.nd rfl (by first | exact Or.inl rfl | exact Or.inr rfl) (x_lst true a_nil))
    (z_cons (st__law_market_4 Fc cdv A outer s H E hr)
    (z_cons (st__law_market_6 Fc cdv A outer s H E hr)
    (z_one (st__law_market_8 Fc cdv A outer s H E hr))))))
abbrev N__law_fair : List Str := ["script", "market", "many", "rows", "k", "name", "money"]
theorem sc__law_fair : FnScope N__law_fair ["script", "market", "many"] (defScope s__law_fair) := ⟨rfl, rfl, rfl, by decide +kernel, rfl, by decide +kernel, by decide +kernel⟩
noncomputable def ms__law_fair_0 : MS := (mAsg (mCb m__law_draw (mCons (mV 0) (mCons (mOp (fAdd false) (mC (.int 680)) (mV 4)) (mCons (mC (.int 401)) mNil)))) (mgName 6))
theorem st__law_fair_0 (Fc : Facts P K mg) (cdv : Value) (A : Around) (outer : List Env) (s : Shared) (H : Hp) (E : XK) (hr : Room (3) (A.deeper (envOfC "_law_fair" (defScope s__law_fair) s.heap.objs.size Fc.a__law_fair cdv))) : PS (cxOf CX0 P w K mg base N__law_fair "_law_fair" (defScope s__law_fair) Fc.a__law_fair cdv A outer s H E).nox (stmtAt (bodyOf (stmtAt (bodyOf (stmtAt (defBody s__law_fair) 1)) 1)) 0) (sM ⟨K, P, w⟩ (ms__law_fair_0)) :=
    (z_set 6 sc__law_fair.nd rfl (by first | exact Or.inl rfl | exact Or.inr rfl) (x_call (ok__law_draw Fc) (hr.mono (by decide)) (by rfl) Fc.g__law_draw Fc.F__law_draw.kp (b__law_draw Fc) (a_cons (x_v 0) (a_cons (x_add false x_int (x_v 4)) (a_cons x_int a_nil)))))
noncomputable def ms__law_fair_2 : MS := (mAsg (mOp fIx (mLst false (mCons (mC (.int 0)) (mCons (mC (.int 1)) (mCons (mC (.int 3)) (mCons (mC (.int 12)) (mCons (mC (.int 40)) (mCons (mC (.int 400)) mNil))))))) (mCb m__law_draw (mCons (mV 0) (mCons (mOp (fAdd false) (mC (.int 600)) (mV 4)) (mCons (mC (.int 6)) mNil))))) (mgName 6))
theorem st__law_fair_2 (Fc : Facts P K mg) (cdv : Value) (A : Around) (outer : List Env) (s : Shared) (H : Hp) (E : XK) (hr : Room (3) (A.deeper (envOfC "_law_fair" (defScope s__law_fair) s.heap.objs.size Fc.a__law_fair cdv))) : PS (cxOf CX0 P w K mg base N__law_fair "_law_fair" (defScope s__law_fair) Fc.a__law_fair cdv A outer s H E).nox (stmtAt (bodyOf (stmtAt (defBody s__law_fair) 1)) 0) (sM ⟨K, P, w⟩ (ms__law_fair_2)) :=
    (z_set 6 sc__law_fair.nd rfl (by first | exact Or.inl rfl | exact Or.inr rfl) (x_ix (x_lst false (a_cons x_int (a_cons x_int (a_cons x_int (a_cons x_int (a_cons x_int (a_cons x_int a_nil))))))) (x_call (ok__law_draw Fc) (hr.mono (by decide)) (by rfl) Fc.g__law_draw Fc.F__law_draw.kp (b__law_draw Fc) (a_cons (x_v 0) (a_cons (x_add false x_int (x_v 4)) (a_cons x_int a_nil))))))
noncomputable def ms__law_fair_4 : MS := (mIfS (mTB (mOp fEq (mCb m__law_draw (mCons (mV 0) (mCons (mOp (fAdd false) (mC (.int 640)) (mV 4)) (mCons (mC (.int 2)) mNil)))) (mC (.int 0))))
    (ms__law_fair_0)
    mNext)
theorem st__law_fair_4 (Fc : Facts P K mg) (cdv : Value) (A : Around) (outer : List Env) (s : Shared) (H : Hp) (E : XK) (hr : Room (3) (A.deeper (envOfC "_law_fair" (defScope s__law_fair) s.heap.objs.size Fc.a__law_fair cdv))) : PS (cxOf CX0 P w K mg base N__law_fair "_law_fair" (defScope s__law_fair) Fc.a__law_fair cdv A outer s H E).nox (stmtAt (bodyOf (stmtAt (defBody s__law_fair) 1)) 1) (sM ⟨K, P, w⟩ (ms__law_fair_4)) :=
    (z_if (y_k (k_eq hr) (x_call (ok__law_draw Fc) (hr.mono (by decide)) (by rfl) Fc.g__law_draw Fc.F__law_draw.kp (b__law_draw Fc) (a_cons (x_v 0) (a_cons (x_add false x_int (x_v 4)) (a_cons x_int a_nil)))) x_int)
    (z_one (st__law_fair_0 Fc cdv A outer s H E hr))
    z_nil)
noncomputable def ms__law_fair_6 : MS := (mDrop (mMt fAppend (mV 3) (mCons (mTup (mCons (mV 5) (mCons (mOp fIx (mOp fIx (mV 1) (mC (.int 0))) (mCb m__law_draw (mCons (mV 0) (mCons (mOp (fAdd false) (mC (.int 720)) (mV 4)) (mCons (mCb fLen (mCons (mOp fIx (mV 1) (mC (.int 0))) mNil)) mNil))))) (mCons (mV 6) mNil)))) mNil)))
theorem st__law_fair_6 (Fc : Facts P K mg) (cdv : Value) (A : Around) (outer : List Env) (s : Shared) (H : Hp) (E : XK) (hr : Room (3) (A.deeper (envOfC "_law_fair" (defScope s__law_fair) s.heap.objs.size Fc.a__law_fair cdv))) : PS (cxOf CX0 P w K mg base N__law_fair "_law_fair" (defScope s__law_fair) Fc.a__law_fair cdv A outer s H E).nox (stmtAt (bodyOf (stmtAt (defBody s__law_fair) 1)) 2) (sM ⟨K, P, w⟩ (ms__law_fair_6)) :=
    (z_expr (x_append (x_v 3) (a_cons (x_tup (a_cons (x_v 5) (a_cons (x_ix (x_ix (x_v 1) x_int) (x_call (ok__law_draw Fc) (hr.mono (by decide)) (by rfl) Fc.g__law_draw Fc.F__law_draw.kp (b__law_draw Fc) (a_cons (x_v 0) (a_cons (x_add false x_int (x_v 4)) (a_cons (x_cb c_len (by rfl) Fc.b_len bt_len (a_cons (x_ix (x_v 1) x_int) a_nil)) a_nil))))) (a_cons (x_v 6) a_nil)))) a_nil)))
noncomputable def ms__law_fair_8 : MS := (mFor (miEnumA (mCons (mCb (fSortA false) (mCons (mCb m__law_names (mCons (mV 0) (mCons (mC (.int 100)) (mCons (mV 2) mNil)))) mNil)) mNil)) (.tup [(.name 4), (.name 5)])
    (mSeq (ms__law_fair_2)
    (mSeq (ms__law_fair_4)
    (ms__law_fair_6))))
theorem st__law_fair_8 (Fc : Facts P K mg) (cdv : Value) (A : Around) (outer : List Env) (s : Shared) (H : Hp) (E : XK) (hr : Room (3) (A.deeper (envOfC "_law_fair" (defScope s__law_fair) s.heap.objs.size Fc.a__law_fair cdv))) : PS (cxOf CX0 P w K mg base N__law_fair "_law_fair" (defScope s__law_fair) Fc.a__law_fair cdv A outer s H E).nox (stmtAt (defBody s__law_fair) 1) (sM ⟨K, P, w⟩ (ms__law_fair_8)) :=
    (z_for PassesOwn.never rfl (i_enumA (by rfl) Fc.b_enumerate (a_cons (x_cb (c_sortA hr false) (by rfl) Fc.b_sorted bt_sorted (a_cons (x_call (ok__law_names Fc) (hr.mono (by decide)) (by rfl) Fc.g__law_names Fc.F__law_names.kp (b__law_names Fc) (a_cons (x_v 0) (a_cons x_int (a_cons (x_v 2) a_nil)))) a_nil)) a_nil)) (t_tup rfl (ts_cons (t_name 4 sc__law_fair.nd rfl (by first | exact Or.inl rfl | exact Or.inr rfl)) (ts_cons (t_name 5 sc__law_fair.nd rfl (by first | exact Or.inl rfl | exact Or.inr rfl)) ts_nil)))
    (z_cons (st__law_fair_2 Fc cdv A outer s H E hr)
    (z_cons (st__law_fair_4 Fc cdv A outer s H E hr)
    (z_one (st__law_fair_6 Fc cdv A outer s H E hr)))))
noncomputable def m__law_fair : List D → Sto → Option (D × Sto) := mDef 7 3 (mSeq (mAsg (mLst true mNil) (mgName 3))
    (mSeq (ms__law_fair_8)
    (mRet (mCb fTuple (mCons (mV 3) mNil)))))
theorem ok__law_fair (Fc : Facts P K mg) : FnOk P w K mg base CX0 4 Fc.a__law_fair Fc.d__law_fair ["script", "market", "many"] (spM ⟨K, P, w⟩ m__law_fair) := x_def (k := 3) Fc.F__law_fair sc__law_fair rfl rfl fun cdv A outer s H E hr =>
    (z_cons (z_set 3 sc__law_fair.nd rfl (by first | exact Or.inl rfl | exact Or.inr rfl) (x_lst true a_nil))
    (z_cons (st__law_fair_8 Fc cdv A outer s H E hr)
    (z_one (z_ret (x_ct c_tuple (by rfl) Fc.b_tuple bt_tuple (a_cons (x_v 3) a_nil))))))
abbrev N__law_due : List Str := ["goods", "thing", "ahead", "place", "row"]
theorem sc__law_due : FnScope N__law_due ["goods", "thing"] (defScope s__law_due) := ⟨rfl, rfl, rfl, by decide +kernel, rfl, by decide +kernel, by decide +kernel⟩
noncomputable def ms__law_due_0 : MS := (mIfS (mOr (mNot (mT (mCb fIsi (mCons (mV 4) (mCons (mC (.ty "tuple")) mNil))))) (mOr (mTB (mOp fNe (mCb fLen (mCons (mV 4) mNil)) (mC (.int 3)))) (mOr (mNot (mT (mCb fIsi (mCons (mOp fIx (mV 4) (mC (.int 0))) (mCons (mC (.ty "str")) mNil))))) (mNot (mT (mCb fIsi (mCons (mOp fIx (mV 4) (mC (.int 1))) (mCons (mC (.ty "str")) mNil))))))))
    (mRet (mTup (mCons (mC (.str "refused")) (mCons (mV 3) (mCons (mC (.str "shape")) mNil)))))
    mNext)
theorem st__law_due_0 (Fc : Facts P K mg) (cdv : Value) (A : Around) (outer : List Env) (s : Shared) (H : Hp) (E : XK) (hr : Room (2) (A.deeper (envOfC "_law_due" (defScope s__law_due) s.heap.objs.size Fc.a__law_due cdv))) : PS (cxOf CX0 P w K mg base N__law_due "_law_due" (defScope s__law_due) Fc.a__law_due cdv A outer s H E).nox (stmtAt (bodyOf (stmtAt (defBody s__law_due) 2)) 0) (sM ⟨K, P, w⟩ (ms__law_due_0)) :=
    (z_if (y_or (y_not (y_t (x_cb c_isi (by rfl) Fc.b_isinstance bt_isinstance (a_cons (x_v 4) (a_cons (x_ty (by rfl) Fc.b_tuple bt_tuple) a_nil))))) (y_or (y_k (k_ne hr) (x_cb c_len (by rfl) Fc.b_len bt_len (a_cons (x_v 4) a_nil)) x_int) (y_or (y_not (y_t (x_cb c_isi (by rfl) Fc.b_isinstance bt_isinstance (a_cons (x_ix (x_v 4) x_int) (a_cons (x_ty (by rfl) Fc.b_str bt_str) a_nil))))) (y_or1 (y_not (y_t (x_cb c_isi (by rfl) Fc.b_isinstance bt_isinstance (a_cons (x_ix (x_v 4) x_int) (a_cons (x_ty (by rfl) Fc.b_str bt_str) a_nil))))))))).pt
    (z_one (z_ret (x_tup (a_cons x_str (a_cons (x_v 3) (a_cons x_str a_nil))))))
    z_nil)
noncomputable def ms__law_due_2 : MS := (mIfS (mOr (mNot (mT (mCb fIsi (mCons (mOp fIx (mV 4) (mC (.int 2))) (mCons (mC (.ty "int")) mNil))))) (mT (mCb fIsi (mCons (mOp fIx (mV 4) (mC (.int 2))) (mCons (mC (.ty "bool")) mNil)))))
    (mRet (mTup (mCons (mC (.str "refused")) (mCons (mV 3) (mCons (mC (.str "shape")) mNil)))))
    mNext)
theorem st__law_due_2 (Fc : Facts P K mg) (cdv : Value) (A : Around) (outer : List Env) (s : Shared) (H : Hp) (E : XK) (hr : Room (2) (A.deeper (envOfC "_law_due" (defScope s__law_due) s.heap.objs.size Fc.a__law_due cdv))) : PS (cxOf CX0 P w K mg base N__law_due "_law_due" (defScope s__law_due) Fc.a__law_due cdv A outer s H E).nox (stmtAt (bodyOf (stmtAt (defBody s__law_due) 2)) 1) (sM ⟨K, P, w⟩ (ms__law_due_2)) :=
    (z_if (y_or (y_not (y_t (x_cb c_isi (by rfl) Fc.b_isinstance bt_isinstance (a_cons (x_ix (x_v 4) x_int) (a_cons (x_ty (by rfl) Fc.b_int bt_int) a_nil))))) (y_or1 (y_t (x_cb c_isi (by rfl) Fc.b_isinstance bt_isinstance (a_cons (x_ix (x_v 4) x_int) (a_cons (x_ty (by rfl) Fc.b_bool bt_bool) a_nil)))))).pt
    (z_one (z_ret (x_tup (a_cons x_str (a_cons (x_v 3) (a_cons x_str a_nil))))))
    z_nil)
noncomputable def ms__law_due_4 : MS := (mIfS (mNot (mT (mCb m__law_is_name (mCons (mOp fIx (mV 4) (mC (.int 0))) mNil))))
    (mRet (mTup (mCons (mC (.str "refused")) (mCons (mV 3) (mCons (mC (.str "name")) mNil)))))
    mNext)
theorem st__law_due_4 (Fc : Facts P K mg) (cdv : Value) (A : Around) (outer : List Env) (s : Shared) (H : Hp) (E : XK) (hr : Room (2) (A.deeper (envOfC "_law_due" (defScope s__law_due) s.heap.objs.size Fc.a__law_due cdv))) : PS (cxOf CX0 P w K mg base N__law_due "_law_due" (defScope s__law_due) Fc.a__law_due cdv A outer s H E).nox (stmtAt (bodyOf (stmtAt (defBody s__law_due) 2)) 2) (sM ⟨K, P, w⟩ (ms__law_due_4)) :=
    (z_if (y_not (y_t (x_call (ok__law_is_name Fc) (hr.mono (by decide)) (by rfl) Fc.g__law_is_name Fc.F__law_is_name.kp (b__law_is_name Fc) (a_cons (x_ix (x_v 4) x_int) a_nil))))
    (z_one (z_ret (x_tup (a_cons x_str (a_cons (x_v 3) (a_cons x_str a_nil))))))
    z_nil)
noncomputable def ms__law_due_6 : MS := (mIfS (mAnd (mTB (mOp fGt (mV 3) (mC (.int 0)))) (mTB (mOp fLeA (mOp fIx (mV 4) (mC (.int 0))) (mV 2))))
    (mRet (mTup (mCons (mC (.str "refused")) (mCons (mV 3) (mCons (mC (.str "order")) mNil)))))
    mNext)
theorem st__law_due_6 (Fc : Facts P K mg) (cdv : Value) (A : Around) (outer : List Env) (s : Shared) (H : Hp) (E : XK) (hr : Room (2) (A.deeper (envOfC "_law_due" (defScope s__law_due) s.heap.objs.size Fc.a__law_due cdv))) : PS (cxOf CX0 P w K mg base N__law_due "_law_due" (defScope s__law_due) Fc.a__law_due cdv A outer s H E).nox (stmtAt (bodyOf (stmtAt (defBody s__law_due) 2)) 3) (sM ⟨K, P, w⟩ (ms__law_due_6)) :=
    (z_if (y_and (y_k k_gt (x_v 3) x_int) (y_and1 (y_k k_leA (x_ix (x_v 4) x_int) (x_v 2)))).pt
    (z_one (z_ret (x_tup (a_cons x_str (a_cons (x_v 3) (a_cons x_str a_nil))))))
    z_nil)
noncomputable def ms__law_due_8 : MS := (mIfS (mNot (mT (mCb fIsi (mCons (mV 1) (mCons (mC (.ty "tuple")) mNil)))))
    (mRet (mTup (mCons (mC (.str "refused")) (mCons (mUn fNeg (mC (.int 1))) (mCons (mC (.str "shape")) mNil)))))
    mNext)
theorem st__law_due_8 (Fc : Facts P K mg) (cdv : Value) (A : Around) (outer : List Env) (s : Shared) (H : Hp) (E : XK) (hr : Room (2) (A.deeper (envOfC "_law_due" (defScope s__law_due) s.heap.objs.size Fc.a__law_due cdv))) : PS (cxOf CX0 P w K mg base N__law_due "_law_due" (defScope s__law_due) Fc.a__law_due cdv A outer s H E).nox (stmtAt (defBody s__law_due) 0) (sM ⟨K, P, w⟩ (ms__law_due_8)) :=
    (z_if (y_not (y_t (x_cb c_isi (by rfl) Fc.b_isinstance bt_isinstance (a_cons (x_v 1) (a_cons (x_ty (by rfl) Fc.b_tuple bt_tuple) a_nil)))))
    (z_one (z_ret (x_tup (a_cons x_str (a_cons (x_neg x_int) (a_cons x_str a_nil))))))
    z_nil)
noncomputable def ms__law_due_10 : MS := (mFor (miEnumA (mCons (mV 1) mNil)) (.tup [(.name 3), (.name 4)])
    (mSeq (ms__law_due_0)
    (mSeq (ms__law_due_2)
    (mSeq (ms__law_due_4)
    (mSeq (ms__law_due_6)
    (mSeq (mIfS (mTB (mOp (fIn true) (mOp fIx (mV 4) (mC (.int 1))) (mV 0)))
    (mRet (mTup (mCons (mC (.str "refused")) (mCons (mV 3) (mCons (mC (.str "good")) mNil)))))
    mNext)
    (mSeq (mIfS (mTB (mOp fLt (mOp fIx (mV 4) (mC (.int 2))) (mC (.int 0))))
    (mRet (mTup (mCons (mC (.str "refused")) (mCons (mV 3) (mCons (mC (.str "money")) mNil)))))
    mNext)
    (mAsg (mOp fIx (mV 4) (mC (.int 0))) (mgName 2)))))))))
theorem st__law_due_10 (Fc : Facts P K mg) (cdv : Value) (A : Around) (outer : List Env) (s : Shared) (H : Hp) (E : XK) (hr : Room (2) (A.deeper (envOfC "_law_due" (defScope s__law_due) s.heap.objs.size Fc.a__law_due cdv))) : PS (cxOf CX0 P w K mg base N__law_due "_law_due" (defScope s__law_due) Fc.a__law_due cdv A outer s H E).nox (stmtAt (defBody s__law_due) 2) (sM ⟨K, P, w⟩ (ms__law_due_10)) :=
    (z_for PassesOwn.never rfl (i_enumA (by rfl) Fc.b_enumerate (a_cons (x_v 1) a_nil)) (t_tup rfl (ts_cons (t_name 3 sc__law_due.nd rfl (by first | exact Or.inl rfl | exact Or.inr rfl)) (ts_cons (t_name 4 sc__law_due.nd rfl (by first | exact Or.inl rfl | exact Or.inr rfl)) ts_nil)))
    (z_cons (st__law_due_0 Fc cdv A outer s H E hr)
    (z_cons (st__law_due_2 Fc cdv A outer s H E hr)
    (z_cons (st__law_due_4 Fc cdv A outer s H E hr)
    (z_cons (st__law_due_6 Fc cdv A outer s H E hr)
    (z_cons (z_if (y_k k_ni (x_ix (x_v 4) x_int) (x_v 0))
    (z_one (z_ret (x_tup (a_cons x_str (a_cons (x_v 3) (a_cons x_str a_nil))))))
    z_nil)
    (z_cons (z_if (y_k k_lt (x_ix (x_v 4) x_int) x_int)
    (z_one (z_ret (x_tup (a_cons x_str (a_cons (x_v 3) (a_cons x_str a_nil))))))
    z_nil)
    (z_one (z_set 2 sc__law_due.nd rfl (by first | exact Or.inl rfl | exact Or.inr rfl) (x_ix (x_v 4) x_int))))))))))
noncomputable def m__law_due : List D → Sto → Option (D × Sto) := mDef 5 2 (mSeq (ms__law_due_8)
    (mSeq (mAsg (mC (.str "")) (mgName 2))
    (mSeq (ms__law_due_10)
    (mRet (mTup (mCons (mC (.str "told")) (mCons (mCb fLen (mCons (mV 1) mNil)) mNil)))))))
theorem ok__law_due (Fc : Facts P K mg) : FnOk P w K mg base CX0 3 Fc.a__law_due Fc.d__law_due ["goods", "thing"] (spM ⟨K, P, w⟩ m__law_due) := x_def (k := 2) Fc.F__law_due sc__law_due rfl rfl fun cdv A outer s H E hr =>
    (z_cons (st__law_due_8 Fc cdv A outer s H E hr)
    (z_cons (z_set 2 sc__law_due.nd rfl (by first | exact Or.inl rfl | exact Or.inr rfl) x_str)
    (z_cons (st__law_due_10 Fc cdv A outer s H E hr)
    (z_one (z_ret (x_tup (a_cons x_str (a_cons (x_cb c_len (by rfl) Fc.b_len bt_len (a_cons (x_v 1) a_nil)) a_nil))))))))
abbrev N__law_checked : List Str := ["market", "thing", "e", "told"]
theorem sc__law_checked : FnScope N__law_checked ["market", "thing"] (defScope s__law_checked) := ⟨rfl, rfl, rfl, by decide +kernel, rfl, by decide +kernel, by decide +kernel⟩
noncomputable def ms__law_checked_0 : MS := (runX (tryX etab (asgX (callX mx_check_fair (consX (lE (mV 0)) (consX (lE (mV 1)) nilX))) (mgName 3)) [⟨"BadFair", some 2, fun x => (mIfR (mOr (mNot (mT (mIs "BadFair" true x))) (mNot (mT (mIs "BadFair" true x)))) (mRet (mTup (mCons (mC (.str "raised")) mNil))) (mRet (mTup (mCons (mC (.str "refused")) (mCons (mFld "BadFair" "number" x) (mCons (mFld "BadFair" "word" x) mNil))))))⟩, ⟨"MarketError", none, fun _ => (mRet (mTup (mCons (mC (.str "raised")) mNil)))⟩]))
theorem st__law_checked_0 (Fc : Facts P K mg) (cdv : Value) (A : Around) (outer : List Env) (s : Shared) (H : Hp) (E : XK) (hr : Room (3) (A.deeper (envOfC "_law_checked" (defScope s__law_checked) s.heap.objs.size Fc.a__law_checked cdv))) : PS (cxOf CX0 P w K mg base N__law_checked "_law_checked" (defScope s__law_checked) Fc.a__law_checked cdv A outer s H E).nox (stmtAt (defBody s__law_checked) 0) (sM ⟨K, P, w⟩ (ms__law_checked_0)) :=
    (z_try rfl rfl sc__law_checked.nd (fun W pn xe tk hp => (xs_one (xs_set 3 sc__law_checked.nd rfl (by first | exact Or.inl rfl | exact Or.inr rfl) (xx_call (okx_check_fair Fc) tk (hr.mono (by decide)) (by rfl) Fc.g_check_fair Fc.F_check_fair.kp (b_check_fair Fc) (xa_cons (lp (PE.nox (x_v 0))) (xa_cons (lp (PE.nox (x_v 1))) xa_nil)))))) (.named (i := 2) ⟨by rfl, by decide, .inl Fc.gk_BadFair⟩ (by rfl) (by rfl) (fun a oe cls d pn hz hf => u_all fun x => (us_ifR (uy_or (uy_not (uy_t (u_isx (Fc.iC_BadFair _ Fc.x_BadFair.n) Fc.x_BadFair.n hz hf (by rfl) Fc.b_isinstance (pv 2) (pe_bltn (by rfl) Fc.b_ValueError bt_ValueError (v := .ty "ValueError") rfl) (fun _ h => h) (Fc.tq_BadFair_ValueError _ Fc.x_BadFair.n)))) (uy_or1 (uy_not (uy_t (u_isx (Fc.iC_BadFair _ Fc.x_BadFair.n) Fc.x_BadFair.n hz hf (by rfl) Fc.b_isinstance (pv 2) (pe_glob (by rfl) Fc.gq_BadFair_MarketError (v := .ref Fc.q_BadFair_MarketError) rfl) (fun _ h => h) (Fc.tq_BadFair_MarketError _ Fc.x_BadFair.n)))))).pt (us_one (us_ret (u_pure (x_tup (a_cons x_str a_nil))))) (us_one (us_ret (u_tup (u_cons (u_pure x_str) (u_cons (u_fld Fc.x_BadFair.X (Fc.x_BadFair.fl _ (by decide)) Fc.x_BadFair.n hz hf (pv 2)) (u_cons (u_fld Fc.x_BadFair.X (Fc.x_BadFair.fl _ (by decide)) Fc.x_BadFair.n hz hf (pv 2)) u_nil)))))))) (.plain ⟨by rfl, by decide, .inl Fc.gk_MarketError⟩ (fun a oe cls d pn hz hf => u_plain (z_one (z_ret (x_tup (a_cons x_str a_nil))))) .nil)) (.cons Fc.t_BadFair (.cons Fc.t_MarketError .nil)))
noncomputable def m__law_checked : List D → Sto → Option (D × Sto) := mDef 4 2 (mSeq (ms__law_checked_0)
    (mRet (mTup (mCons (mC (.str "told")) (mCons (mV 3) mNil)))))
theorem ok__law_checked (Fc : Facts P K mg) : FnOk P w K mg base CX0 4 Fc.a__law_checked Fc.d__law_checked ["market", "thing"] (spM ⟨K, P, w⟩ m__law_checked) := x_def (k := 3) Fc.F__law_checked sc__law_checked rfl rfl fun cdv A outer s H E hr =>
    (z_cons (st__law_checked_0 Fc cdv A outer s H E hr)
    (z_one (z_ret (x_tup (a_cons x_str (a_cons (x_v 3) a_nil))))))
abbrev N__law_held : List Str := ["fair", "trader", "e", "told"]
theorem sc__law_held : FnScope N__law_held ["fair", "trader"] (defScope s__law_held) := ⟨rfl, rfl, rfl, by decide +kernel, rfl, by decide +kernel, by decide +kernel⟩
noncomputable def ms__law_held_0 : MS := (runX (tryX etab (asgX (callX mx_holding_of (consX (lE (mV 0)) (consX (lE (mV 1)) nilX))) (mgName 3)) [⟨"NoSuch", some 2, fun x => (mRet (mTup (mCons (mC (.str "refused")) (mCons (mFld "NoSuch" "word" x) (mCons (mFld "NoSuch" "name" x) mNil)))))⟩, ⟨"MarketError", none, fun _ => (mRet (mTup (mCons (mC (.str "raised")) mNil)))⟩]))
theorem st__law_held_0 (Fc : Facts P K mg) (cdv : Value) (A : Around) (outer : List Env) (s : Shared) (H : Hp) (E : XK) (hr : Room (3) (A.deeper (envOfC "_law_held" (defScope s__law_held) s.heap.objs.size Fc.a__law_held cdv))) : PS (cxOf CX0 P w K mg base N__law_held "_law_held" (defScope s__law_held) Fc.a__law_held cdv A outer s H E).nox (stmtAt (defBody s__law_held) 0) (sM ⟨K, P, w⟩ (ms__law_held_0)) :=
    (z_try rfl rfl sc__law_held.nd (fun W pn xe tk hp => (xs_one (xs_set 3 sc__law_held.nd rfl (by first | exact Or.inl rfl | exact Or.inr rfl) (xx_call (okx_holding_of Fc) tk (hr.mono (by decide)) (by rfl) Fc.g_holding_of Fc.F_holding_of.kp (b_holding_of Fc) (xa_cons (lp (PE.nox (x_v 0))) (xa_cons (lp (PE.nox (x_v 1))) xa_nil)))))) (.named (i := 2) ⟨by rfl, by decide, .inl Fc.gk_NoSuch⟩ (by rfl) (by rfl) (fun a oe cls d pn hz hf => u_one fun x => (us_ret (u_tup (u_cons (u_pure x_str) (u_cons (u_fld Fc.x_NoSuch.X (Fc.x_NoSuch.fl _ (by decide)) Fc.x_NoSuch.n hz hf (pv 2)) (u_cons (u_fld Fc.x_NoSuch.X (Fc.x_NoSuch.fl _ (by decide)) Fc.x_NoSuch.n hz hf (pv 2)) u_nil)))))) (.plain ⟨by rfl, by decide, .inl Fc.gk_MarketError⟩ (fun a oe cls d pn hz hf => u_plain (z_one (z_ret (x_tup (a_cons x_str a_nil))))) .nil)) (.cons Fc.t_NoSuch (.cons Fc.t_MarketError .nil)))
noncomputable def m__law_held : List D → Sto → Option (D × Sto) := mDef 4 2 (mSeq (ms__law_held_0)
    (mRet (mTup (mCons (mC (.str "told")) (mCons (mV 3) mNil)))))
theorem ok__law_held (Fc : Facts P K mg) : FnOk P w K mg base CX0 4 Fc.a__law_held Fc.d__law_held ["fair", "trader"] (spM ⟨K, P, w⟩ m__law_held) := x_def (k := 3) Fc.F__law_held sc__law_held rfl rfl fun cdv A outer s H E hr =>
    (z_cons (st__law_held_0 Fc cdv A outer s H E hr)
    (z_one (z_ret (x_tup (a_cons x_str (a_cons (x_v 3) a_nil))))))
abbrev N__law_put : List Str := ["fair", "at", "row"]
theorem sc__law_put : FnScope N__law_put ["fair", "at", "row"] (defScope s__law_put) := ⟨rfl, rfl, rfl, by decide +kernel, rfl, by decide +kernel, by decide +kernel⟩
noncomputable def ms__law_put_0 : MS := (mRet (mOp (fAdd false) (mOp (fAdd false) (mSl false (mV 0) mNone (mSome (mV 1))) (mTup (mCons (mV 2) mNil))) (mSl false (mV 0) (mSome (mOp (fAdd false) (mV 1) (mC (.int 1)))) mNone)))
theorem st__law_put_0 (Fc : Facts P K mg) (cdv : Value) (A : Around) (outer : List Env) (s : Shared) (H : Hp) (E : XK) (hr : Room (0) (A.deeper (envOfC "_law_put" (defScope s__law_put) s.heap.objs.size Fc.a__law_put cdv))) : PS (cxOf CX0 P w K mg base N__law_put "_law_put" (defScope s__law_put) Fc.a__law_put cdv A outer s H E).nox (stmtAt (defBody s__law_put) 0) (sM ⟨K, P, w⟩ (ms__law_put_0)) :=
    (z_ret (x_add false (x_add false (x_sl false (x_v 0) o_none (o_some (x_v 1))) (x_tup (a_cons (x_v 2) a_nil))) (x_sl false (x_v 0) (o_some (x_add false (x_v 1) x_int)) o_none)))
noncomputable def m__law_put : List D → Sto → Option (D × Sto) := mDef 3 3 (ms__law_put_0)
theorem ok__law_put (Fc : Facts P K mg) : FnOk P w K mg base CX0 1 Fc.a__law_put Fc.d__law_put ["fair", "at", "row"] (spM ⟨K, P, w⟩ m__law_put) := x_def (k := 0) Fc.F__law_put sc__law_put rfl rfl fun cdv A outer s H E hr =>
    (z_one (st__law_put_0 Fc cdv A outer s H E hr))
abbrev N__law_no_row : List Str := ["row", "way", "ways", "name", "good", "money"]
theorem sc__law_no_row : FnScope N__law_no_row ["row", "way"] (defScope s__law_no_row) := ⟨rfl, rfl, rfl, by decide +kernel, rfl, by decide +kernel, by decide +kernel⟩
noncomputable def ms__law_no_row_0 : MS := (mAsg (mV 0) (mgTup 3 (mgCons (mgT (.name 3)) (mgCons (mgT (.name 4)) (mgCons (mgT (.name 5)) mgNil)))))
theorem st__law_no_row_0 (Fc : Facts P K mg) (cdv : Value) (A : Around) (outer : List Env) (s : Shared) (H : Hp) (E : XK) (hr : Room (0) (A.deeper (envOfC "_law_no_row" (defScope s__law_no_row) s.heap.objs.size Fc.a__law_no_row cdv))) : PS (cxOf CX0 P w K mg base N__law_no_row "_law_no_row" (defScope s__law_no_row) Fc.a__law_no_row cdv A outer s H E).nox (stmtAt (defBody s__law_no_row) 0) (sM ⟨K, P, w⟩ (ms__law_no_row_0)) :=
    (z_asg (x_v 0) (g_tup (n := 3) rfl (g_cons (g_T (t_name 3 sc__law_no_row.nd rfl (by first | exact Or.inl rfl | exact Or.inr rfl))) (g_cons (g_T (t_name 4 sc__law_no_row.nd rfl (by first | exact Or.inl rfl | exact Or.inr rfl))) (g_cons (g_T (t_name 5 sc__law_no_row.nd rfl (by first | exact Or.inl rfl | exact Or.inr rfl))) g_nil)))))
noncomputable def ms__law_no_row_2 : MS := (mAsg (mLst false (mCons (mCb (fList false) (mCons (mV 0) mNil)) (mCons (mTup (mCons (mV 3) (mCons (mV 4) mNil))) (mCons (mTup (mCons (mV 3) (mCons (mV 4) (mCons (mV 5) (mCons (mC (.int 0)) mNil))))) (mCons (mTup (mCons (mV 3) (mCons (mV 4) (mCons (mC (.bl true)) mNil)))) (mCons (mTup (mCons (mV 3) (mCons (mV 4) (mCons (mC .non) mNil)))) (mCons (mTup (mCons (mV 3) (mCons (mV 4) (mCons (mCb fStr (mCons (mV 5) mNil)) mNil)))) mNil))))))) (mgName 2))
theorem st__law_no_row_2 (Fc : Facts P K mg) (cdv : Value) (A : Around) (outer : List Env) (s : Shared) (H : Hp) (E : XK) (hr : Room (0) (A.deeper (envOfC "_law_no_row" (defScope s__law_no_row) s.heap.objs.size Fc.a__law_no_row cdv))) : PS (cxOf CX0 P w K mg base N__law_no_row "_law_no_row" (defScope s__law_no_row) Fc.a__law_no_row cdv A outer s H E).nox (stmtAt (defBody s__law_no_row) 1) (sM ⟨K, P, w⟩ (ms__law_no_row_2)) :=
    (z_set 2 sc__law_no_row.nd rfl (by first | exact Or.inl rfl | exact Or.inr rfl) (x_lst false (a_cons (x_ct (c_list false) (by rfl) Fc.b_list bt_list (a_cons (x_v 0) a_nil)) (a_cons (x_tup (a_cons (x_v 3) (a_cons (x_v 4) a_nil))) (a_cons (x_tup (a_cons (x_v 3) (a_cons (x_v 4) (a_cons (x_v 5) (a_cons x_int a_nil))))) (a_cons (x_tup (a_cons (x_v 3) (a_cons (x_v 4) (a_cons x_bl a_nil)))) (a_cons (x_tup (a_cons (x_v 3) (a_cons (x_v 4) (a_cons x_non a_nil)))) (a_cons (x_tup (a_cons (x_v 3) (a_cons (x_v 4) (a_cons (x_ct c_str (by rfl) Fc.b_str bt_str (a_cons (x_v 5) a_nil)) a_nil)))) a_nil))))))))
noncomputable def ms__law_no_row_4 : MS := (mAsg (mOp (fAdd false) (mV 2) (mLst false (mCons (mTup (mCons (mC .non) (mCons (mV 4) (mCons (mV 5) mNil)))) (mCons (mTup (mCons (mV 3) (mCons (mC .non) (mCons (mV 5) mNil)))) (mCons (mV 3) (mCons (mC .non) (mCons (mC (.int 7)) (mCons (mTup mNil) (mCons (mTup (mCons (mV 0) mNil)) (mCons (mTup (mCons (mV 3) (mCons (mTup (mCons (mV 4) mNil)) (mCons (mV 5) mNil)))) (mCons (mC (.str "abc")) (mCons (mTup (mCons (mC (.int 7)) (mCons (mV 4) (mCons (mV 5) mNil)))) mNil)))))))))))) (mgName 2))
theorem st__law_no_row_4 (Fc : Facts P K mg) (cdv : Value) (A : Around) (outer : List Env) (s : Shared) (H : Hp) (E : XK) (hr : Room (0) (A.deeper (envOfC "_law_no_row" (defScope s__law_no_row) s.heap.objs.size Fc.a__law_no_row cdv))) : PS (cxOf CX0 P w K mg base N__law_no_row "_law_no_row" (defScope s__law_no_row) Fc.a__law_no_row cdv A outer s H E).nox (stmtAt (defBody s__law_no_row) 2) (sM ⟨K, P, w⟩ (ms__law_no_row_4)) :=
    (z_set 2 sc__law_no_row.nd rfl (by first | exact Or.inl rfl | exact Or.inr rfl) (x_add false (x_v 2) (x_lst false (a_cons (x_tup (a_cons x_non (a_cons (x_v 4) (a_cons (x_v 5) a_nil)))) (a_cons (x_tup (a_cons (x_v 3) (a_cons x_non (a_cons (x_v 5) a_nil)))) (a_cons (x_v 3) (a_cons x_non (a_cons x_int (a_cons (x_tup a_nil) (a_cons (x_tup (a_cons (x_v 0) a_nil)) (a_cons (x_tup (a_cons (x_v 3) (a_cons (x_tup (a_cons (x_v 4) a_nil)) (a_cons (x_v 5) a_nil)))) (a_cons x_str (a_cons (x_tup (a_cons x_int (a_cons (x_v 4) (a_cons (x_v 5) a_nil)))) a_nil)))))))))))))
noncomputable def ms__law_no_row_6 : MS := (mAsg (mOp (fAdd false) (mV 2) (mLst false (mCons (mTup (mCons (mV 3) (mCons (mV 4) (mCons (mC (.bl false)) mNil)))) (mCons (mLst false mNil) (mCons (mTup (mCons (mC (.bl true)) (mCons (mV 4) (mCons (mV 5) mNil)))) (mCons (mTup (mCons (mV 3) (mCons (mV 4) (mCons (mTup (mCons (mV 5) mNil)) mNil)))) (mCons (mTup (mCons (mV 3) (mCons (mV 5) (mCons (mV 4) mNil)))) (mCons (mTup (mCons (mV 3) (mCons (mLst false (mCons (mV 4) mNil)) (mCons (mV 5) mNil)))) mNil)))))))) (mgName 2))
theorem st__law_no_row_6 (Fc : Facts P K mg) (cdv : Value) (A : Around) (outer : List Env) (s : Shared) (H : Hp) (E : XK) (hr : Room (0) (A.deeper (envOfC "_law_no_row" (defScope s__law_no_row) s.heap.objs.size Fc.a__law_no_row cdv))) : PS (cxOf CX0 P w K mg base N__law_no_row "_law_no_row" (defScope s__law_no_row) Fc.a__law_no_row cdv A outer s H E).nox (stmtAt (defBody s__law_no_row) 3) (sM ⟨K, P, w⟩ (ms__law_no_row_6)) :=
    (z_set 2 sc__law_no_row.nd rfl (by first | exact Or.inl rfl | exact Or.inr rfl) (x_add false (x_v 2) (x_lst false (a_cons (x_tup (a_cons (x_v 3) (a_cons (x_v 4) (a_cons x_bl a_nil)))) (a_cons (x_lst false a_nil) (a_cons (x_tup (a_cons x_bl (a_cons (x_v 4) (a_cons (x_v 5) a_nil)))) (a_cons (x_tup (a_cons (x_v 3) (a_cons (x_v 4) (a_cons (x_tup (a_cons (x_v 5) a_nil)) a_nil)))) (a_cons (x_tup (a_cons (x_v 3) (a_cons (x_v 5) (a_cons (x_v 4) a_nil)))) (a_cons (x_tup (a_cons (x_v 3) (a_cons (x_lst false (a_cons (x_v 4) a_nil)) (a_cons (x_v 5) a_nil)))) a_nil)))))))))
noncomputable def m__law_no_row : List D → Sto → Option (D × Sto) := mDef 6 2 (mSeq (ms__law_no_row_0)
    (mSeq (ms__law_no_row_2)
    (mSeq (ms__law_no_row_4)
    (mSeq (ms__law_no_row_6)
    (mRet (mOp fIx (mV 2) (mV 1)))))))
theorem ok__law_no_row (Fc : Facts P K mg) : FnOk P w K mg base CX0 1 Fc.a__law_no_row Fc.d__law_no_row ["row", "way"] (spM ⟨K, P, w⟩ m__law_no_row) := x_def (k := 0) Fc.F__law_no_row sc__law_no_row rfl rfl fun cdv A outer s H E hr =>
    (z_cons (st__law_no_row_0 Fc cdv A outer s H E hr)
    (z_cons (st__law_no_row_2 Fc cdv A outer s H E hr)
    (z_cons (st__law_no_row_4 Fc cdv A outer s H E hr)
    (z_cons (st__law_no_row_6 Fc cdv A outer s H E hr)
    (z_one (z_ret (x_ix (x_v 2) (x_v 1))))))))
abbrev N__law_no_name : List Str := ["row", "way", "words", "name", "good", "money"]
theorem sc__law_no_name : FnScope N__law_no_name ["row", "way"] (defScope s__law_no_name) := ⟨rfl, rfl, rfl, by decide +kernel, rfl, by decide +kernel, by decide +kernel⟩
noncomputable def ms__law_no_name_0 : MS := (mAsg (mV 0) (mgTup 3 (mgCons (mgT (.name 3)) (mgCons (mgT (.name 4)) (mgCons (mgT (.name 5)) mgNil)))))
theorem st__law_no_name_0 (Fc : Facts P K mg) (cdv : Value) (A : Around) (outer : List Env) (s : Shared) (H : Hp) (E : XK) (hr : Room (1) (A.deeper (envOfC "_law_no_name" (defScope s__law_no_name) s.heap.objs.size Fc.a__law_no_name cdv))) : PS (cxOf CX0 P w K mg base N__law_no_name "_law_no_name" (defScope s__law_no_name) Fc.a__law_no_name cdv A outer s H E).nox (stmtAt (defBody s__law_no_name) 0) (sM ⟨K, P, w⟩ (ms__law_no_name_0)) :=
    (z_asg (x_v 0) (g_tup (n := 3) rfl (g_cons (g_T (t_name 3 sc__law_no_name.nd rfl (by first | exact Or.inl rfl | exact Or.inr rfl))) (g_cons (g_T (t_name 4 sc__law_no_name.nd rfl (by first | exact Or.inl rfl | exact Or.inr rfl))) (g_cons (g_T (t_name 5 sc__law_no_name.nd rfl (by first | exact Or.inl rfl | exact Or.inr rfl))) g_nil)))))
noncomputable def ms__law_no_name_2 : MS := (mAsg (mOp (fAdd false) (mCb m__law_words mNil) (mLst false (mCons (mC (.str "")) (mCons (mC (.str "Ann")) (mCons (mC (.str "1a")) (mCons (mC (.str "ann bob")) (mCons (mC (.str "a_b")) (mCons (mC (.str "abcdefghi")) (mCons (mC (.str "a\n")) (mCons (mC (.str "a-")) (mCons (mC (.str " a")) (mCons (mC (.str "a ")) (mCons (mC (.str "9")) (mCons (mC (.str "aB")) (mCons (mC (.str "abcdefgh0")) mNil))))))))))))))) (mgName 2))
theorem st__law_no_name_2 (Fc : Facts P K mg) (cdv : Value) (A : Around) (outer : List Env) (s : Shared) (H : Hp) (E : XK) (hr : Room (1) (A.deeper (envOfC "_law_no_name" (defScope s__law_no_name) s.heap.objs.size Fc.a__law_no_name cdv))) : PS (cxOf CX0 P w K mg base N__law_no_name "_law_no_name" (defScope s__law_no_name) Fc.a__law_no_name cdv A outer s H E).nox (stmtAt (defBody s__law_no_name) 1) (sM ⟨K, P, w⟩ (ms__law_no_name_2)) :=
    (z_set 2 sc__law_no_name.nd rfl (by first | exact Or.inl rfl | exact Or.inr rfl) (x_add false (x_call0 (ok__law_words Fc) (hr.mono (by decide)) (by rfl) Fc.g__law_words Fc.F__law_words.kp (b__law_words Fc)) (x_lst false (a_cons x_str (a_cons x_str (a_cons x_str (a_cons x_str (a_cons x_str (a_cons x_str (a_cons x_str (a_cons x_str (a_cons x_str (a_cons x_str (a_cons x_str (a_cons x_str (a_cons x_str a_nil))))))))))))))))
noncomputable def ms__law_no_name_4 : MS := (mIfS (mTB (mOp fEq (mV 1) (mC (.int 0))))
    (mRet (mTup (mCons (mOp (fAdd false) (mV 3) (mC (.str "aaaaaaaa"))) (mCons (mV 4) (mCons (mV 5) mNil)))))
    mNext)
theorem st__law_no_name_4 (Fc : Facts P K mg) (cdv : Value) (A : Around) (outer : List Env) (s : Shared) (H : Hp) (E : XK) (hr : Room (1) (A.deeper (envOfC "_law_no_name" (defScope s__law_no_name) s.heap.objs.size Fc.a__law_no_name cdv))) : PS (cxOf CX0 P w K mg base N__law_no_name "_law_no_name" (defScope s__law_no_name) Fc.a__law_no_name cdv A outer s H E).nox (stmtAt (defBody s__law_no_name) 2) (sM ⟨K, P, w⟩ (ms__law_no_name_4)) :=
    (z_if (y_k (k_eq hr) (x_v 1) x_int)
    (z_one (z_ret (x_tup (a_cons (x_add false (x_v 3) x_str) (a_cons (x_v 4) (a_cons (x_v 5) a_nil))))))
    z_nil)
noncomputable def ms__law_no_name_6 : MS := (mRet (mTup (mCons (mOp fIx (mV 2) (mOp fMod (mOp fSub (mV 1) (mC (.int 1))) (mCb fLen (mCons (mV 2) mNil)))) (mCons (mV 4) (mCons (mV 5) mNil)))))
theorem st__law_no_name_6 (Fc : Facts P K mg) (cdv : Value) (A : Around) (outer : List Env) (s : Shared) (H : Hp) (E : XK) (hr : Room (1) (A.deeper (envOfC "_law_no_name" (defScope s__law_no_name) s.heap.objs.size Fc.a__law_no_name cdv))) : PS (cxOf CX0 P w K mg base N__law_no_name "_law_no_name" (defScope s__law_no_name) Fc.a__law_no_name cdv A outer s H E).nox (stmtAt (defBody s__law_no_name) 3) (sM ⟨K, P, w⟩ (ms__law_no_name_6)) :=
    (z_ret (x_tup (a_cons (x_ix (x_v 2) (x_mod (x_sub (x_v 1) x_int) (x_cb c_len (by rfl) Fc.b_len bt_len (a_cons (x_v 2) a_nil)))) (a_cons (x_v 4) (a_cons (x_v 5) a_nil)))))
noncomputable def m__law_no_name : List D → Sto → Option (D × Sto) := mDef 6 2 (mSeq (ms__law_no_name_0)
    (mSeq (ms__law_no_name_2)
    (mSeq (ms__law_no_name_4)
    (ms__law_no_name_6))))
theorem ok__law_no_name (Fc : Facts P K mg) : FnOk P w K mg base CX0 2 Fc.a__law_no_name Fc.d__law_no_name ["row", "way"] (spM ⟨K, P, w⟩ m__law_no_name) := x_def (k := 1) Fc.F__law_no_name sc__law_no_name rfl rfl fun cdv A outer s H E hr =>
    (z_cons (st__law_no_name_0 Fc cdv A outer s H E hr)
    (z_cons (st__law_no_name_2 Fc cdv A outer s H E hr)
    (z_cons (st__law_no_name_4 Fc cdv A outer s H E hr)
    (z_one (st__law_no_name_6 Fc cdv A outer s H E hr)))))
abbrev N__law_bent : List Str := ["script", "market", "fair", "many", "things", "at", "strange", "below", "name", "good", "money"]
theorem sc__law_bent : FnScope N__law_bent ["script", "market", "fair"] (defScope s__law_bent) := ⟨rfl, rfl, rfl, by decide +kernel, rfl, by decide +kernel, by decide +kernel⟩
noncomputable def ms__law_bent_0 : MS := (mAsg (mOp fIx (mV 2) (mCb m__law_draw (mCons (mV 0) (mCons (mC (.int 30)) (mCons (mV 3) mNil))))) (mgTup 3 (mgCons (mgT (.name 8)) (mgCons (mgT (.name 9)) (mgCons (mgT (.name 10)) mgNil)))))
theorem st__law_bent_0 (Fc : Facts P K mg) (cdv : Value) (A : Around) (outer : List Env) (s : Shared) (H : Hp) (E : XK) (hr : Room (2) (A.deeper (envOfC "_law_bent" (defScope s__law_bent) s.heap.objs.size Fc.a__law_bent cdv))) : PS (cxOf CX0 P w K mg base N__law_bent "_law_bent" (defScope s__law_bent) Fc.a__law_bent cdv A outer s H E).nox (stmtAt (defBody s__law_bent) 1) (sM ⟨K, P, w⟩ (ms__law_bent_0)) :=
    (z_asg (x_ix (x_v 2) (x_call (ok__law_draw Fc) (hr.mono (by decide)) (by rfl) Fc.g__law_draw Fc.F__law_draw.kp (b__law_draw Fc) (a_cons (x_v 0) (a_cons x_int (a_cons (x_v 3) a_nil))))) (g_tup (n := 3) rfl (g_cons (g_T (t_name 8 sc__law_bent.nd rfl (by first | exact Or.inl rfl | exact Or.inr rfl))) (g_cons (g_T (t_name 9 sc__law_bent.nd rfl (by first | exact Or.inl rfl | exact Or.inr rfl))) (g_cons (g_T (t_name 10 sc__law_bent.nd rfl (by first | exact Or.inl rfl | exact Or.inr rfl))) g_nil)))))
noncomputable def ms__law_bent_2 : MS := (mAsg (mLst true (mCons (mOp fIx (mLst false (mCons (mCb (fList false) (mCons (mV 2) mNil)) (mCons (mC .non) (mCons (mC (.str "ann")) (mCons (mC (.int 7)) (mCons (mC (.bl true)) (mCons (mLst false mNil) (mCons (mC (.str "")) (mCons (mUn fNeg (mC (.int 1))) (mCons (mC (.int 0)) (mCons (mV 8) mNil))))))))))) (mCb m__law_draw (mCons (mV 0) (mCons (mC (.int 31)) (mCons (mC (.int 10)) mNil))))) mNil)) (mgName 4))
theorem st__law_bent_2 (Fc : Facts P K mg) (cdv : Value) (A : Around) (outer : List Env) (s : Shared) (H : Hp) (E : XK) (hr : Room (2) (A.deeper (envOfC "_law_bent" (defScope s__law_bent) s.heap.objs.size Fc.a__law_bent cdv))) : PS (cxOf CX0 P w K mg base N__law_bent "_law_bent" (defScope s__law_bent) Fc.a__law_bent cdv A outer s H E).nox (stmtAt (defBody s__law_bent) 2) (sM ⟨K, P, w⟩ (ms__law_bent_2)) :=
    (z_set 4 sc__law_bent.nd rfl (by first | exact Or.inl rfl | exact Or.inr rfl) (x_lst true (a_cons (x_ix (x_lst false (a_cons (x_ct (c_list false) (by rfl) Fc.b_list bt_list (a_cons (x_v 2) a_nil)) (a_cons x_non (a_cons x_str (a_cons x_int (a_cons x_bl (a_cons (x_lst false a_nil) (a_cons x_str (a_cons (x_neg x_int) (a_cons x_int (a_cons (x_v 8) a_nil))))))))))) (x_call (ok__law_draw Fc) (hr.mono (by decide)) (by rfl) Fc.g__law_draw Fc.F__law_draw.kp (b__law_draw Fc) (a_cons (x_v 0) (a_cons x_int (a_cons x_int a_nil))))) a_nil)))
noncomputable def ms__law_bent_4 : MS := (mAsg (mCb m__law_draw (mCons (mV 0) (mCons (mC (.int 32)) (mCons (mV 3) mNil)))) (mgName 5))
theorem st__law_bent_4 (Fc : Facts P K mg) (cdv : Value) (A : Around) (outer : List Env) (s : Shared) (H : Hp) (E : XK) (hr : Room (2) (A.deeper (envOfC "_law_bent" (defScope s__law_bent) s.heap.objs.size Fc.a__law_bent cdv))) : PS (cxOf CX0 P w K mg base N__law_bent "_law_bent" (defScope s__law_bent) Fc.a__law_bent cdv A outer s H E).nox (stmtAt (defBody s__law_bent) 3) (sM ⟨K, P, w⟩ (ms__law_bent_4)) :=
    (z_set 5 sc__law_bent.nd rfl (by first | exact Or.inl rfl | exact Or.inr rfl) (x_call (ok__law_draw Fc) (hr.mono (by decide)) (by rfl) Fc.g__law_draw Fc.F__law_draw.kp (b__law_draw Fc) (a_cons (x_v 0) (a_cons x_int (a_cons (x_v 3) a_nil)))))
noncomputable def ms__law_bent_6 : MS := (mDrop (mMt fAppend (mV 4) (mCons (mCb m__law_put (mCons (mV 2) (mCons (mV 5) (mCons (mCb m__law_no_row (mCons (mOp fIx (mV 2) (mV 5)) (mCons (mCb m__law_draw (mCons (mV 0) (mCons (mC (.int 33)) (mCons (mC (.int 22)) mNil)))) mNil))) mNil)))) mNil)))
theorem st__law_bent_6 (Fc : Facts P K mg) (cdv : Value) (A : Around) (outer : List Env) (s : Shared) (H : Hp) (E : XK) (hr : Room (2) (A.deeper (envOfC "_law_bent" (defScope s__law_bent) s.heap.objs.size Fc.a__law_bent cdv))) : PS (cxOf CX0 P w K mg base N__law_bent "_law_bent" (defScope s__law_bent) Fc.a__law_bent cdv A outer s H E).nox (stmtAt (defBody s__law_bent) 4) (sM ⟨K, P, w⟩ (ms__law_bent_6)) :=
    (z_expr (x_append (x_v 4) (a_cons (x_call (ok__law_put Fc) (hr.mono (by decide)) (by rfl) Fc.g__law_put Fc.F__law_put.kp (b__law_put Fc) (a_cons (x_v 2) (a_cons (x_v 5) (a_cons (x_call (ok__law_no_row Fc) (hr.mono (by decide)) (by rfl) Fc.g__law_no_row Fc.F__law_no_row.kp (b__law_no_row Fc) (a_cons (x_ix (x_v 2) (x_v 5)) (a_cons (x_call (ok__law_draw Fc) (hr.mono (by decide)) (by rfl) Fc.g__law_draw Fc.F__law_draw.kp (b__law_draw Fc) (a_cons (x_v 0) (a_cons x_int (a_cons x_int a_nil)))) a_nil))) a_nil)))) a_nil)))
noncomputable def ms__law_bent_8 : MS := (mDrop (mMt fAppend (mV 4) (mCons (mCb m__law_put (mCons (mV 2) (mCons (mV 5) (mCons (mCb m__law_no_row (mCons (mOp fIx (mV 2) (mV 5)) (mCons (mCb m__law_draw (mCons (mV 0) (mCons (mC (.int 34)) (mCons (mC (.int 22)) mNil)))) mNil))) mNil)))) mNil)))
theorem st__law_bent_8 (Fc : Facts P K mg) (cdv : Value) (A : Around) (outer : List Env) (s : Shared) (H : Hp) (E : XK) (hr : Room (2) (A.deeper (envOfC "_law_bent" (defScope s__law_bent) s.heap.objs.size Fc.a__law_bent cdv))) : PS (cxOf CX0 P w K mg base N__law_bent "_law_bent" (defScope s__law_bent) Fc.a__law_bent cdv A outer s H E).nox (stmtAt (defBody s__law_bent) 5) (sM ⟨K, P, w⟩ (ms__law_bent_8)) :=
    (z_expr (x_append (x_v 4) (a_cons (x_call (ok__law_put Fc) (hr.mono (by decide)) (by rfl) Fc.g__law_put Fc.F__law_put.kp (b__law_put Fc) (a_cons (x_v 2) (a_cons (x_v 5) (a_cons (x_call (ok__law_no_row Fc) (hr.mono (by decide)) (by rfl) Fc.g__law_no_row Fc.F__law_no_row.kp (b__law_no_row Fc) (a_cons (x_ix (x_v 2) (x_v 5)) (a_cons (x_call (ok__law_draw Fc) (hr.mono (by decide)) (by rfl) Fc.g__law_draw Fc.F__law_draw.kp (b__law_draw Fc) (a_cons (x_v 0) (a_cons x_int (a_cons x_int a_nil)))) a_nil))) a_nil)))) a_nil)))
noncomputable def ms__law_bent_10 : MS := (mAsg (mCb m__law_draw (mCons (mV 0) (mCons (mC (.int 35)) (mCons (mV 3) mNil)))) (mgName 5))
theorem st__law_bent_10 (Fc : Facts P K mg) (cdv : Value) (A : Around) (outer : List Env) (s : Shared) (H : Hp) (E : XK) (hr : Room (2) (A.deeper (envOfC "_law_bent" (defScope s__law_bent) s.heap.objs.size Fc.a__law_bent cdv))) : PS (cxOf CX0 P w K mg base N__law_bent "_law_bent" (defScope s__law_bent) Fc.a__law_bent cdv A outer s H E).nox (stmtAt (defBody s__law_bent) 6) (sM ⟨K, P, w⟩ (ms__law_bent_10)) :=
    (z_set 5 sc__law_bent.nd rfl (by first | exact Or.inl rfl | exact Or.inr rfl) (x_call (ok__law_draw Fc) (hr.mono (by decide)) (by rfl) Fc.g__law_draw Fc.F__law_draw.kp (b__law_draw Fc) (a_cons (x_v 0) (a_cons x_int (a_cons (x_v 3) a_nil)))))
noncomputable def ms__law_bent_12 : MS := (mDrop (mMt fAppend (mV 4) (mCons (mCb m__law_put (mCons (mV 2) (mCons (mV 5) (mCons (mCb m__law_no_name (mCons (mOp fIx (mV 2) (mV 5)) (mCons (mCb m__law_draw (mCons (mV 0) (mCons (mC (.int 36)) (mCons (mC (.int 29)) mNil)))) mNil))) mNil)))) mNil)))
theorem st__law_bent_12 (Fc : Facts P K mg) (cdv : Value) (A : Around) (outer : List Env) (s : Shared) (H : Hp) (E : XK) (hr : Room (2) (A.deeper (envOfC "_law_bent" (defScope s__law_bent) s.heap.objs.size Fc.a__law_bent cdv))) : PS (cxOf CX0 P w K mg base N__law_bent "_law_bent" (defScope s__law_bent) Fc.a__law_bent cdv A outer s H E).nox (stmtAt (defBody s__law_bent) 7) (sM ⟨K, P, w⟩ (ms__law_bent_12)) :=
    (z_expr (x_append (x_v 4) (a_cons (x_call (ok__law_put Fc) (hr.mono (by decide)) (by rfl) Fc.g__law_put Fc.F__law_put.kp (b__law_put Fc) (a_cons (x_v 2) (a_cons (x_v 5) (a_cons (x_call (ok__law_no_name Fc) (hr.mono (by decide)) (by rfl) Fc.g__law_no_name Fc.F__law_no_name.kp (b__law_no_name Fc) (a_cons (x_ix (x_v 2) (x_v 5)) (a_cons (x_call (ok__law_draw Fc) (hr.mono (by decide)) (by rfl) Fc.g__law_draw Fc.F__law_draw.kp (b__law_draw Fc) (a_cons (x_v 0) (a_cons x_int (a_cons x_int a_nil)))) a_nil))) a_nil)))) a_nil)))
noncomputable def ms__law_bent_14 : MS := (mAsg (mOp (fAdd false) (mC (.int 1)) (mCb m__law_draw (mCons (mV 0) (mCons (mC (.int 37)) (mCons (mOp fSub (mV 3) (mC (.int 1))) mNil))))) (mgName 5))
theorem st__law_bent_14 (Fc : Facts P K mg) (cdv : Value) (A : Around) (outer : List Env) (s : Shared) (H : Hp) (E : XK) (hr : Room (2) (A.deeper (envOfC "_law_bent" (defScope s__law_bent) s.heap.objs.size Fc.a__law_bent cdv))) : PS (cxOf CX0 P w K mg base N__law_bent "_law_bent" (defScope s__law_bent) Fc.a__law_bent cdv A outer s H E).nox (stmtAt (defBody s__law_bent) 8) (sM ⟨K, P, w⟩ (ms__law_bent_14)) :=
    (z_set 5 sc__law_bent.nd rfl (by first | exact Or.inl rfl | exact Or.inr rfl) (x_add false x_int (x_call (ok__law_draw Fc) (hr.mono (by decide)) (by rfl) Fc.g__law_draw Fc.F__law_draw.kp (b__law_draw Fc) (a_cons (x_v 0) (a_cons x_int (a_cons (x_sub (x_v 3) x_int) a_nil))))))
noncomputable def ms__law_bent_16 : MS := (mDrop (mMt fAppend (mV 4) (mCons (mCb m__law_put (mCons (mV 2) (mCons (mV 5) (mCons (mTup (mCons (mOp fIx (mOp fIx (mV 2) (mOp fSub (mV 5) (mC (.int 1)))) (mC (.int 0))) (mCons (mOp fIx (mOp fIx (mV 2) (mV 5)) (mC (.int 1))) (mCons (mOp fIx (mOp fIx (mV 2) (mV 5)) (mC (.int 2))) mNil)))) mNil)))) mNil)))
theorem st__law_bent_16 (Fc : Facts P K mg) (cdv : Value) (A : Around) (outer : List Env) (s : Shared) (H : Hp) (E : XK) (hr : Room (2) (A.deeper (envOfC "_law_bent" (defScope s__law_bent) s.heap.objs.size Fc.a__law_bent cdv))) : PS (cxOf CX0 P w K mg base N__law_bent "_law_bent" (defScope s__law_bent) Fc.a__law_bent cdv A outer s H E).nox (stmtAt (defBody s__law_bent) 9) (sM ⟨K, P, w⟩ (ms__law_bent_16)) :=
    (z_expr (x_append (x_v 4) (a_cons (x_call (ok__law_put Fc) (hr.mono (by decide)) (by rfl) Fc.g__law_put Fc.F__law_put.kp (b__law_put Fc) (a_cons (x_v 2) (a_cons (x_v 5) (a_cons (x_tup (a_cons (x_ix (x_ix (x_v 2) (x_sub (x_v 5) x_int)) x_int) (a_cons (x_ix (x_ix (x_v 2) (x_v 5)) x_int) (a_cons (x_ix (x_ix (x_v 2) (x_v 5)) x_int) a_nil)))) a_nil)))) a_nil)))
noncomputable def ms__law_bent_18 : MS := (mDrop (mMt fAppend (mV 4) (mCons (mCb m__law_put (mCons (mCb m__law_put (mCons (mV 2) (mCons (mV 5) (mCons (mOp fIx (mV 2) (mOp fSub (mV 5) (mC (.int 1)))) mNil)))) (mCons (mOp fSub (mV 5) (mC (.int 1))) (mCons (mOp fIx (mV 2) (mV 5)) mNil)))) mNil)))
theorem st__law_bent_18 (Fc : Facts P K mg) (cdv : Value) (A : Around) (outer : List Env) (s : Shared) (H : Hp) (E : XK) (hr : Room (2) (A.deeper (envOfC "_law_bent" (defScope s__law_bent) s.heap.objs.size Fc.a__law_bent cdv))) : PS (cxOf CX0 P w K mg base N__law_bent "_law_bent" (defScope s__law_bent) Fc.a__law_bent cdv A outer s H E).nox (stmtAt (defBody s__law_bent) 10) (sM ⟨K, P, w⟩ (ms__law_bent_18)) :=
    (z_expr (x_append (x_v 4) (a_cons (x_call (ok__law_put Fc) (hr.mono (by decide)) (by rfl) Fc.g__law_put Fc.F__law_put.kp (b__law_put Fc) (a_cons (x_call (ok__law_put Fc) (hr.mono (by decide)) (by rfl) Fc.g__law_put Fc.F__law_put.kp (b__law_put Fc) (a_cons (x_v 2) (a_cons (x_v 5) (a_cons (x_ix (x_v 2) (x_sub (x_v 5) x_int)) a_nil)))) (a_cons (x_sub (x_v 5) x_int) (a_cons (x_ix (x_v 2) (x_v 5)) a_nil)))) a_nil)))
noncomputable def ms__law_bent_20 : MS := (mAsg (mCb m__law_draw (mCons (mV 0) (mCons (mC (.int 38)) (mCons (mV 3) mNil)))) (mgName 5))
theorem st__law_bent_20 (Fc : Facts P K mg) (cdv : Value) (A : Around) (outer : List Env) (s : Shared) (H : Hp) (E : XK) (hr : Room (2) (A.deeper (envOfC "_law_bent" (defScope s__law_bent) s.heap.objs.size Fc.a__law_bent cdv))) : PS (cxOf CX0 P w K mg base N__law_bent "_law_bent" (defScope s__law_bent) Fc.a__law_bent cdv A outer s H E).nox (stmtAt (defBody s__law_bent) 11) (sM ⟨K, P, w⟩ (ms__law_bent_20)) :=
    (z_set 5 sc__law_bent.nd rfl (by first | exact Or.inl rfl | exact Or.inr rfl) (x_call (ok__law_draw Fc) (hr.mono (by decide)) (by rfl) Fc.g__law_draw Fc.F__law_draw.kp (b__law_draw Fc) (a_cons (x_v 0) (a_cons x_int (a_cons (x_v 3) a_nil)))))
noncomputable def ms__law_bent_22 : MS := (mAsg (mOp fIx (mLst false (mCons (mC (.str "")) (mCons (mC (.str "zzzzzzzz0")) (mCons (mC (.str "Corn")) (mCons (mC (.str "none")) (mCons (mOp (fAdd false) (mOp fIx (mOp fIx (mV 1) (mC (.int 0))) (mC (.int 0))) (mC (.str "_"))) (mCons (mOp (fAdd false) (mOp fIx (mOp fIx (mV 2) (mV 5)) (mC (.int 0))) (mC (.str "x"))) (mCons (mC (.str "house")) (mCons (mOp (fAdd false) (mOp fIx (mOp fIx (mV 1) (mC (.int 0))) (mUn fNeg (mC (.int 1)))) (mC (.str " "))) mNil))))))))) (mCb m__law_draw (mCons (mV 0) (mCons (mC (.int 39)) (mCons (mC (.int 8)) mNil))))) (mgName 6))
theorem st__law_bent_22 (Fc : Facts P K mg) (cdv : Value) (A : Around) (outer : List Env) (s : Shared) (H : Hp) (E : XK) (hr : Room (2) (A.deeper (envOfC "_law_bent" (defScope s__law_bent) s.heap.objs.size Fc.a__law_bent cdv))) : PS (cxOf CX0 P w K mg base N__law_bent "_law_bent" (defScope s__law_bent) Fc.a__law_bent cdv A outer s H E).nox (stmtAt (defBody s__law_bent) 12) (sM ⟨K, P, w⟩ (ms__law_bent_22)) :=
    (z_set 6 sc__law_bent.nd rfl (by first | exact Or.inl rfl | exact Or.inr rfl) (x_ix (x_lst false (a_cons x_str (a_cons x_str (a_cons x_str (a_cons x_str (a_cons (x_add false (x_ix (x_ix (x_v 1) x_int) x_int) x_str) (a_cons (x_add false (x_ix (x_ix (x_v 2) (x_v 5)) x_int) x_str) (a_cons x_str (a_cons (x_add false (x_ix (x_ix (x_v 1) x_int) (x_neg x_int)) x_str) a_nil))))))))) (x_call (ok__law_draw Fc) (hr.mono (by decide)) (by rfl) Fc.g__law_draw Fc.F__law_draw.kp (b__law_draw Fc) (a_cons (x_v 0) (a_cons x_int (a_cons x_int a_nil))))))
noncomputable def ms__law_bent_24 : MS := (mDrop (mMt fAppend (mV 4) (mCons (mCb m__law_put (mCons (mV 2) (mCons (mV 5) (mCons (mTup (mCons (mOp fIx (mOp fIx (mV 2) (mV 5)) (mC (.int 0))) (mCons (mV 6) (mCons (mOp fIx (mOp fIx (mV 2) (mV 5)) (mC (.int 2))) mNil)))) mNil)))) mNil)))
theorem st__law_bent_24 (Fc : Facts P K mg) (cdv : Value) (A : Around) (outer : List Env) (s : Shared) (H : Hp) (E : XK) (hr : Room (2) (A.deeper (envOfC "_law_bent" (defScope s__law_bent) s.heap.objs.size Fc.a__law_bent cdv))) : PS (cxOf CX0 P w K mg base N__law_bent "_law_bent" (defScope s__law_bent) Fc.a__law_bent cdv A outer s H E).nox (stmtAt (defBody s__law_bent) 13) (sM ⟨K, P, w⟩ (ms__law_bent_24)) :=
    (z_expr (x_append (x_v 4) (a_cons (x_call (ok__law_put Fc) (hr.mono (by decide)) (by rfl) Fc.g__law_put Fc.F__law_put.kp (b__law_put Fc) (a_cons (x_v 2) (a_cons (x_v 5) (a_cons (x_tup (a_cons (x_ix (x_ix (x_v 2) (x_v 5)) x_int) (a_cons (x_v 6) (a_cons (x_ix (x_ix (x_v 2) (x_v 5)) x_int) a_nil)))) a_nil)))) a_nil)))
noncomputable def ms__law_bent_26 : MS := (mAsg (mCb m__law_draw (mCons (mV 0) (mCons (mC (.int 40)) (mCons (mV 3) mNil)))) (mgName 5))
theorem st__law_bent_26 (Fc : Facts P K mg) (cdv : Value) (A : Around) (outer : List Env) (s : Shared) (H : Hp) (E : XK) (hr : Room (2) (A.deeper (envOfC "_law_bent" (defScope s__law_bent) s.heap.objs.size Fc.a__law_bent cdv))) : PS (cxOf CX0 P w K mg base N__law_bent "_law_bent" (defScope s__law_bent) Fc.a__law_bent cdv A outer s H E).nox (stmtAt (defBody s__law_bent) 14) (sM ⟨K, P, w⟩ (ms__law_bent_26)) :=
    (z_set 5 sc__law_bent.nd rfl (by first | exact Or.inl rfl | exact Or.inr rfl) (x_call (ok__law_draw Fc) (hr.mono (by decide)) (by rfl) Fc.g__law_draw Fc.F__law_draw.kp (b__law_draw Fc) (a_cons (x_v 0) (a_cons x_int (a_cons (x_v 3) a_nil)))))
noncomputable def ms__law_bent_28 : MS := (mAsg (mOp fIx (mLst false (mCons (mUn fNeg (mC (.int 1))) (mCons (mUn fNeg (mC (.int 2))) (mCons (mUn fNeg (mC (.int 400))) (mCons (mUn fNeg (mC (.int 7))) (mCons (mUn fNeg (mC (.int 12345678901234567890123456789))) mNil)))))) (mCb m__law_draw (mCons (mV 0) (mCons (mC (.int 41)) (mCons (mC (.int 5)) mNil))))) (mgName 7))
theorem st__law_bent_28 (Fc : Facts P K mg) (cdv : Value) (A : Around) (outer : List Env) (s : Shared) (H : Hp) (E : XK) (hr : Room (2) (A.deeper (envOfC "_law_bent" (defScope s__law_bent) s.heap.objs.size Fc.a__law_bent cdv))) : PS (cxOf CX0 P w K mg base N__law_bent "_law_bent" (defScope s__law_bent) Fc.a__law_bent cdv A outer s H E).nox (stmtAt (defBody s__law_bent) 15) (sM ⟨K, P, w⟩ (ms__law_bent_28)) :=
    (z_set 7 sc__law_bent.nd rfl (by first | exact Or.inl rfl | exact Or.inr rfl) (x_ix (x_lst false (a_cons (x_neg x_int) (a_cons (x_neg x_int) (a_cons (x_neg x_int) (a_cons (x_neg x_int) (a_cons (x_neg x_int) a_nil)))))) (x_call (ok__law_draw Fc) (hr.mono (by decide)) (by rfl) Fc.g__law_draw Fc.F__law_draw.kp (b__law_draw Fc) (a_cons (x_v 0) (a_cons x_int (a_cons x_int a_nil))))))
noncomputable def ms__law_bent_30 : MS := (mDrop (mMt fAppend (mV 4) (mCons (mCb m__law_put (mCons (mV 2) (mCons (mV 5) (mCons (mTup (mCons (mOp fIx (mOp fIx (mV 2) (mV 5)) (mC (.int 0))) (mCons (mOp fIx (mOp fIx (mV 2) (mV 5)) (mC (.int 1))) (mCons (mV 7) mNil)))) mNil)))) mNil)))
theorem st__law_bent_30 (Fc : Facts P K mg) (cdv : Value) (A : Around) (outer : List Env) (s : Shared) (H : Hp) (E : XK) (hr : Room (2) (A.deeper (envOfC "_law_bent" (defScope s__law_bent) s.heap.objs.size Fc.a__law_bent cdv))) : PS (cxOf CX0 P w K mg base N__law_bent "_law_bent" (defScope s__law_bent) Fc.a__law_bent cdv A outer s H E).nox (stmtAt (defBody s__law_bent) 16) (sM ⟨K, P, w⟩ (ms__law_bent_30)) :=
    (z_expr (x_append (x_v 4) (a_cons (x_call (ok__law_put Fc) (hr.mono (by decide)) (by rfl) Fc.g__law_put Fc.F__law_put.kp (b__law_put Fc) (a_cons (x_v 2) (a_cons (x_v 5) (a_cons (x_tup (a_cons (x_ix (x_ix (x_v 2) (x_v 5)) x_int) (a_cons (x_ix (x_ix (x_v 2) (x_v 5)) x_int) (a_cons (x_v 7) a_nil)))) a_nil)))) a_nil)))
noncomputable def m__law_bent : List D → Sto → Option (D × Sto) := mDef 11 3 (mSeq (mAsg (mCb fLen (mCons (mV 2) mNil)) (mgName 3))
    (mSeq (ms__law_bent_0)
    (mSeq (ms__law_bent_2)
    (mSeq (ms__law_bent_4)
    (mSeq (ms__law_bent_6)
    (mSeq (ms__law_bent_8)
    (mSeq (ms__law_bent_10)
    (mSeq (ms__law_bent_12)
    (mSeq (ms__law_bent_14)
    (mSeq (ms__law_bent_16)
    (mSeq (ms__law_bent_18)
    (mSeq (ms__law_bent_20)
    (mSeq (ms__law_bent_22)
    (mSeq (ms__law_bent_24)
    (mSeq (ms__law_bent_26)
    (mSeq (ms__law_bent_28)
    (mSeq (ms__law_bent_30)
    (mRet (mFrz (mV 4))))))))))))))))))))
theorem ok__law_bent (Fc : Facts P K mg) : FnOk P w K mg base CX0 3 Fc.a__law_bent Fc.d__law_bent ["script", "market", "fair"] (spM ⟨K, P, w⟩ m__law_bent) := x_def (k := 2) Fc.F__law_bent sc__law_bent rfl rfl fun cdv A outer s H E hr =>
    (z_cons (z_set 3 sc__law_bent.nd rfl (by first | exact Or.inl rfl | exact Or.inr rfl) (x_cb c_len (by rfl) Fc.b_len bt_len (a_cons (x_v 2) a_nil)))
    (z_cons (st__law_bent_0 Fc cdv A outer s H E hr)
    (z_cons (st__law_bent_2 Fc cdv A outer s H E hr)
    (z_cons (st__law_bent_4 Fc cdv A outer s H E hr)
    (z_cons (st__law_bent_6 Fc cdv A outer s H E hr)
    (z_cons (st__law_bent_8 Fc cdv A outer s H E hr)
    (z_cons (st__law_bent_10 Fc cdv A outer s H E hr)
    (z_cons (st__law_bent_12 Fc cdv A outer s H E hr)
    (z_cons (st__law_bent_14 Fc cdv A outer s H E hr)
    (z_cons (st__law_bent_16 Fc cdv A outer s H E hr)
    (z_cons (st__law_bent_18 Fc cdv A outer s H E hr)
    (z_cons (st__law_bent_20 Fc cdv A outer s H E hr)
    (z_cons (st__law_bent_22 Fc cdv A outer s H E hr)
    (z_cons (st__law_bent_24 Fc cdv A outer s H E hr)
    (z_cons (st__law_bent_26 Fc cdv A outer s H E hr)
    (z_cons (st__law_bent_28 Fc cdv A outer s H E hr)
    (z_cons (st__law_bent_30 Fc cdv A outer s H E hr)
    (z_one (z_ret (x_frz (x_v 4)))))))))))))))))))))
abbrev N__law_two : List Str := ["script", "market", "fair", "many", "at", "ahead", "rows", "things", "other", "name", "good", "money"]
theorem sc__law_two : FnScope N__law_two ["script", "market", "fair"] (defScope s__law_two) := ⟨rfl, rfl, rfl, by decide +kernel, rfl, by decide +kernel, by decide +kernel⟩
noncomputable def ms__law_two_0 : MS := (mAsg (mOp (fAdd false) (mC (.int 1)) (mCb m__law_draw (mCons (mV 0) (mCons (mC (.int 42)) (mCons (mOp fSub (mV 3) (mC (.int 1))) mNil))))) (mgName 4))
theorem st__law_two_0 (Fc : Facts P K mg) (cdv : Value) (A : Around) (outer : List Env) (s : Shared) (H : Hp) (E : XK) (hr : Room (1) (A.deeper (envOfC "_law_two" (defScope s__law_two) s.heap.objs.size Fc.a__law_two cdv))) : PS (cxOf CX0 P w K mg base N__law_two "_law_two" (defScope s__law_two) Fc.a__law_two cdv A outer s H E).nox (stmtAt (defBody s__law_two) 1) (sM ⟨K, P, w⟩ (ms__law_two_0)) :=
    (z_set 4 sc__law_two.nd rfl (by first | exact Or.inl rfl | exact Or.inr rfl) (x_add false x_int (x_call (ok__law_draw Fc) (hr.mono (by decide)) (by rfl) Fc.g__law_draw Fc.F__law_draw.kp (b__law_draw Fc) (a_cons (x_v 0) (a_cons x_int (a_cons (x_sub (x_v 3) x_int) a_nil))))))
noncomputable def ms__law_two_2 : MS := (mAsg (mOp fIx (mV 2) (mV 4)) (mgTup 3 (mgCons (mgT (.name 9)) (mgCons (mgT (.name 10)) (mgCons (mgT (.name 11)) mgNil)))))
theorem st__law_two_2 (Fc : Facts P K mg) (cdv : Value) (A : Around) (outer : List Env) (s : Shared) (H : Hp) (E : XK) (hr : Room (1) (A.deeper (envOfC "_law_two" (defScope s__law_two) s.heap.objs.size Fc.a__law_two cdv))) : PS (cxOf CX0 P w K mg base N__law_two "_law_two" (defScope s__law_two) Fc.a__law_two cdv A outer s H E).nox (stmtAt (defBody s__law_two) 2) (sM ⟨K, P, w⟩ (ms__law_two_2)) :=
    (z_asg (x_ix (x_v 2) (x_v 4)) (g_tup (n := 3) rfl (g_cons (g_T (t_name 9 sc__law_two.nd rfl (by first | exact Or.inl rfl | exact Or.inr rfl))) (g_cons (g_T (t_name 10 sc__law_two.nd rfl (by first | exact Or.inl rfl | exact Or.inr rfl))) (g_cons (g_T (t_name 11 sc__law_two.nd rfl (by first | exact Or.inl rfl | exact Or.inr rfl))) g_nil)))))
noncomputable def ms__law_two_4 : MS := (mAsg (mLst false (mCons (mTup (mCons (mC (.str "from")) (mCons (mC (.str "")) (mCons (mUn fNeg (mC (.int 1))) mNil)))) (mCons (mTup (mCons (mV 5) (mCons (mC (.str "")) (mCons (mV 11) mNil)))) (mCons (mTup (mCons (mV 5) (mCons (mV 10) (mCons (mUn fNeg (mC (.int 1))) mNil)))) (mCons (mTup (mCons (mV 9) (mCons (mC (.str "")) (mCons (mUn fNeg (mC (.int 1))) mNil)))) (mCons (mTup (mCons (mV 9) (mCons (mC (.str "none")) (mCons (mC (.bl true)) mNil)))) (mCons (mTup (mCons (mC (.str "Up")) (mCons (mV 10) (mCons (mUn fNeg (mC (.int 3))) mNil)))) (mCons (mTup (mCons (mV 5) (mCons (mC (.str "")) (mCons (mUn fNeg (mC (.int 2))) mNil)))) (mCons (mTup (mCons (mC (.str "Up")) (mCons (mC (.str "")) (mCons (mC .non) mNil)))) mNil))))))))) (mgName 6))
theorem st__law_two_4 (Fc : Facts P K mg) (cdv : Value) (A : Around) (outer : List Env) (s : Shared) (H : Hp) (E : XK) (hr : Room (1) (A.deeper (envOfC "_law_two" (defScope s__law_two) s.heap.objs.size Fc.a__law_two cdv))) : PS (cxOf CX0 P w K mg base N__law_two "_law_two" (defScope s__law_two) Fc.a__law_two cdv A outer s H E).nox (stmtAt (defBody s__law_two) 4) (sM ⟨K, P, w⟩ (ms__law_two_4)) :=
    (z_set 6 sc__law_two.nd rfl (by first | exact Or.inl rfl | exact Or.inr rfl) (x_lst false (a_cons (x_tup (a_cons x_str (a_cons x_str (a_cons (x_neg x_int) a_nil)))) (a_cons (x_tup (a_cons (x_v 5) (a_cons x_str (a_cons (x_v 11) a_nil)))) (a_cons (x_tup (a_cons (x_v 5) (a_cons (x_v 10) (a_cons (x_neg x_int) a_nil)))) (a_cons (x_tup (a_cons (x_v 9) (a_cons x_str (a_cons (x_neg x_int) a_nil)))) (a_cons (x_tup (a_cons (x_v 9) (a_cons x_str (a_cons x_bl a_nil)))) (a_cons (x_tup (a_cons x_str (a_cons (x_v 10) (a_cons (x_neg x_int) a_nil)))) (a_cons (x_tup (a_cons (x_v 5) (a_cons x_str (a_cons (x_neg x_int) a_nil)))) (a_cons (x_tup (a_cons x_str (a_cons x_str (a_cons x_non a_nil)))) a_nil))))))))))
noncomputable def ms__law_two_6 : MS := (mAsg (mLst true (mCons (mCb m__law_put (mCons (mV 2) (mCons (mV 4) (mCons (mOp fIx (mV 6) (mCb m__law_draw (mCons (mV 0) (mCons (mC (.int 43)) (mCons (mC (.int 8)) mNil))))) mNil)))) mNil)) (mgName 7))
theorem st__law_two_6 (Fc : Facts P K mg) (cdv : Value) (A : Around) (outer : List Env) (s : Shared) (H : Hp) (E : XK) (hr : Room (1) (A.deeper (envOfC "_law_two" (defScope s__law_two) s.heap.objs.size Fc.a__law_two cdv))) : PS (cxOf CX0 P w K mg base N__law_two "_law_two" (defScope s__law_two) Fc.a__law_two cdv A outer s H E).nox (stmtAt (defBody s__law_two) 5) (sM ⟨K, P, w⟩ (ms__law_two_6)) :=
    (z_set 7 sc__law_two.nd rfl (by first | exact Or.inl rfl | exact Or.inr rfl) (x_lst true (a_cons (x_call (ok__law_put Fc) (hr.mono (by decide)) (by rfl) Fc.g__law_put Fc.F__law_put.kp (b__law_put Fc) (a_cons (x_v 2) (a_cons (x_v 4) (a_cons (x_ix (x_v 6) (x_call (ok__law_draw Fc) (hr.mono (by decide)) (by rfl) Fc.g__law_draw Fc.F__law_draw.kp (b__law_draw Fc) (a_cons (x_v 0) (a_cons x_int (a_cons x_int a_nil))))) a_nil)))) a_nil)))
noncomputable def ms__law_two_8 : MS := (mAsg (mCb m__law_draw (mCons (mV 0) (mCons (mC (.int 44)) (mCons (mV 3) mNil)))) (mgName 8))
theorem st__law_two_8 (Fc : Facts P K mg) (cdv : Value) (A : Around) (outer : List Env) (s : Shared) (H : Hp) (E : XK) (hr : Room (1) (A.deeper (envOfC "_law_two" (defScope s__law_two) s.heap.objs.size Fc.a__law_two cdv))) : PS (cxOf CX0 P w K mg base N__law_two "_law_two" (defScope s__law_two) Fc.a__law_two cdv A outer s H E).nox (stmtAt (defBody s__law_two) 6) (sM ⟨K, P, w⟩ (ms__law_two_8)) :=
    (z_set 8 sc__law_two.nd rfl (by first | exact Or.inl rfl | exact Or.inr rfl) (x_call (ok__law_draw Fc) (hr.mono (by decide)) (by rfl) Fc.g__law_draw Fc.F__law_draw.kp (b__law_draw Fc) (a_cons (x_v 0) (a_cons x_int (a_cons (x_v 3) a_nil)))))
noncomputable def ms__law_two_10 : MS := (mDrop (mMt fAppend (mV 7) (mCons (mCb m__law_put (mCons (mOp fIx (mV 7) (mC (.int 0))) (mCons (mV 8) (mCons (mOp fIx (mLst false (mCons (mTup (mCons (mOp fIx (mOp fIx (mV 2) (mV 8)) (mC (.int 0))) (mCons (mV 10) (mCons (mUn fNeg (mC (.int 1))) mNil)))) (mCons (mTup (mCons (mC (.str "Up")) (mCons (mV 10) (mCons (mC (.int 1)) mNil)))) (mCons (mTup (mCons (mOp fIx (mOp fIx (mV 2) (mV 8)) (mC (.int 0))) (mCons (mC (.str "")) (mCons (mC (.int 1)) mNil)))) (mCons (mTup (mCons (mOp fIx (mOp fIx (mV 2) (mV 8)) (mC (.int 0))) (mCons (mV 10) mNil))) mNil))))) (mCb m__law_draw (mCons (mV 0) (mCons (mC (.int 45)) (mCons (mC (.int 4)) mNil))))) mNil)))) mNil)))
theorem st__law_two_10 (Fc : Facts P K mg) (cdv : Value) (A : Around) (outer : List Env) (s : Shared) (H : Hp) (E : XK) (hr : Room (1) (A.deeper (envOfC "_law_two" (defScope s__law_two) s.heap.objs.size Fc.a__law_two cdv))) : PS (cxOf CX0 P w K mg base N__law_two "_law_two" (defScope s__law_two) Fc.a__law_two cdv A outer s H E).nox (stmtAt (defBody s__law_two) 7) (sM ⟨K, P, w⟩ (ms__law_two_10)) :=
    (z_expr (x_append (x_v 7) (a_cons (x_call (ok__law_put Fc) (hr.mono (by decide)) (by rfl) Fc.g__law_put Fc.F__law_put.kp (b__law_put Fc) (a_cons (x_ix (x_v 7) x_int) (a_cons (x_v 8) (a_cons (x_ix (x_lst false (a_cons (x_tup (a_cons (x_ix (x_ix (x_v 2) (x_v 8)) x_int) (a_cons (x_v 10) (a_cons (x_neg x_int) a_nil)))) (a_cons (x_tup (a_cons x_str (a_cons (x_v 10) (a_cons x_int a_nil)))) (a_cons (x_tup (a_cons (x_ix (x_ix (x_v 2) (x_v 8)) x_int) (a_cons x_str (a_cons x_int a_nil)))) (a_cons (x_tup (a_cons (x_ix (x_ix (x_v 2) (x_v 8)) x_int) (a_cons (x_v 10) a_nil))) a_nil))))) (x_call (ok__law_draw Fc) (hr.mono (by decide)) (by rfl) Fc.g__law_draw Fc.F__law_draw.kp (b__law_draw Fc) (a_cons (x_v 0) (a_cons x_int (a_cons x_int a_nil))))) a_nil)))) a_nil)))
noncomputable def m__law_two : List D → Sto → Option (D × Sto) := mDef 12 3 (mSeq (mAsg (mCb fLen (mCons (mV 2) mNil)) (mgName 3))
    (mSeq (ms__law_two_0)
    (mSeq (ms__law_two_2)
    (mSeq (mAsg (mOp fIx (mOp fIx (mV 2) (mOp fSub (mV 4) (mC (.int 1)))) (mC (.int 0))) (mgName 5))
    (mSeq (ms__law_two_4)
    (mSeq (ms__law_two_6)
    (mSeq (ms__law_two_8)
    (mSeq (ms__law_two_10)
    (mSeq (mDrop (mMt fAppend (mV 7) (mCons (mCb (fList false) (mCons (mOp fIx (mV 7) (mC (.int 0))) mNil)) mNil)))
    (mRet (mFrz (mV 7))))))))))))
theorem ok__law_two (Fc : Facts P K mg) : FnOk P w K mg base CX0 2 Fc.a__law_two Fc.d__law_two ["script", "market", "fair"] (spM ⟨K, P, w⟩ m__law_two) := x_def (k := 1) Fc.F__law_two sc__law_two rfl rfl fun cdv A outer s H E hr =>
    (z_cons (z_set 3 sc__law_two.nd rfl (by first | exact Or.inl rfl | exact Or.inr rfl) (x_cb c_len (by rfl) Fc.b_len bt_len (a_cons (x_v 2) a_nil)))
    (z_cons (st__law_two_0 Fc cdv A outer s H E hr)
    (z_cons (st__law_two_2 Fc cdv A outer s H E hr)
    (z_cons (z_set 5 sc__law_two.nd rfl (by first | exact Or.inl rfl | exact Or.inr rfl) (x_ix (x_ix (x_v 2) (x_sub (x_v 4) x_int)) x_int))
    (z_cons (st__law_two_4 Fc cdv A outer s H E hr)
    (z_cons (st__law_two_6 Fc cdv A outer s H E hr)
    (z_cons (st__law_two_8 Fc cdv A outer s H E hr)
    (z_cons (st__law_two_10 Fc cdv A outer s H E hr)
    (z_cons (z_expr (x_append (x_v 7) (a_cons (x_ct (c_list false) (by rfl) Fc.b_list bt_list (a_cons (x_ix (x_v 7) x_int) a_nil)) a_nil)))
    (z_one (z_ret (x_frz (x_v 7)))))))))))))
abbrev N_law : List Str := ["script", "market", "many", "fair", "goods", "thing", "k", "at", "fewer", "some", "started", "good", "money", "step", "cross", "due", "name", "row"]
theorem sc_law : FnScope N_law ["script"] (defScope s_law) := ⟨rfl, rfl, rfl, by decide +kernel, rfl, by decide +kernel, by decide +kernel⟩
noncomputable def ms_law_0 : MS := (mIfS (mNot (mT (mCb (m__law_same 5) (mCons (mCb m__law_checked (mCons (mV 1) (mCons (mV 5) mNil))) (mCons (mTup (mCons (mC (.str "told")) (mCons (mCb fLen (mCons (mV 5) mNil)) mNil))) mNil)))))
    (mRet (mC (.bl false)))
    mNext)
theorem st_law_0 (Fc : Facts P K mg) (cdv : Value) (A : Around) (outer : List Env) (s : Shared) (H : Hp) (E : XK) (hr : Room (6) (A.deeper (envOfC "law" (defScope s_law) s.heap.objs.size Fc.a_law cdv))) : PS (cxOf CX0 P w K mg base N_law "law" (defScope s_law) Fc.a_law cdv A outer s H E).nox (stmtAt (bodyOf (stmtAt (defBody s_law) 5)) 0) (sM ⟨K, P, w⟩ (ms_law_0)) :=
    (z_if (y_not (y_t (x_call (ok__law_same 5 Fc) (hr.mono (by decide)) (by rfl) Fc.g__law_same Fc.F__law_same.kp (b__law_same Fc) (a_cons (x_call (ok__law_checked Fc) (hr.mono (by decide)) (by rfl) Fc.g__law_checked Fc.F__law_checked.kp (b__law_checked Fc) (a_cons (x_v 1) (a_cons (x_v 5) a_nil))) (a_cons (x_tup (a_cons x_str (a_cons (x_cb c_len (by rfl) Fc.b_len bt_len (a_cons (x_v 5) a_nil)) a_nil))) a_nil)))))
    (z_one (z_ret x_bl))
    z_nil)
noncomputable def ms_law_2 : MS := (mIfS (mNot (mT (mCb (m__law_same 5) (mCons (mCb m__law_checked (mCons (mV 1) (mCons (mV 5) mNil))) (mCons (mCb m__law_due (mCons (mV 4) (mCons (mV 5) mNil))) mNil)))))
    (mRet (mC (.bl false)))
    mNext)
theorem st_law_2 (Fc : Facts P K mg) (cdv : Value) (A : Around) (outer : List Env) (s : Shared) (H : Hp) (E : XK) (hr : Room (6) (A.deeper (envOfC "law" (defScope s_law) s.heap.objs.size Fc.a_law cdv))) : PS (cxOf CX0 P w K mg base N_law "law" (defScope s_law) Fc.a_law cdv A outer s H E).nox (stmtAt (bodyOf (stmtAt (defBody s_law) 6)) 0) (sM ⟨K, P, w⟩ (ms_law_2)) :=
    (z_if (y_not (y_t (x_call (ok__law_same 5 Fc) (hr.mono (by decide)) (by rfl) Fc.g__law_same Fc.F__law_same.kp (b__law_same Fc) (a_cons (x_call (ok__law_checked Fc) (hr.mono (by decide)) (by rfl) Fc.g__law_checked Fc.F__law_checked.kp (b__law_checked Fc) (a_cons (x_v 1) (a_cons (x_v 5) a_nil))) (a_cons (x_call (ok__law_due Fc) (hr.mono (by decide)) (by rfl) Fc.g__law_due Fc.F__law_due.kp (b__law_due Fc) (a_cons (x_v 4) (a_cons (x_v 5) a_nil))) a_nil)))))
    (z_one (z_ret x_bl))
    z_nil)
noncomputable def ms_law_4 : MS := (mAsg (mOp fIx (mV 3) (mOp fIx (mLst false (mCons (mC (.int 0)) (mCons (mOp fSub (mV 2) (mC (.int 1))) (mCons (mCb m__law_draw (mCons (mV 0) (mCons (mC (.int 46)) (mCons (mV 2) mNil)))) mNil)))) (mV 6))) (mgTup 3 (mgCons (mgT (.name 16)) (mgCons (mgT (.name 11)) (mgCons (mgT (.name 12)) mgNil)))))
theorem st_law_4 (Fc : Facts P K mg) (cdv : Value) (A : Around) (outer : List Env) (s : Shared) (H : Hp) (E : XK) (hr : Room (6) (A.deeper (envOfC "law" (defScope s_law) s.heap.objs.size Fc.a_law cdv))) : PS (cxOf CX0 P w K mg base N_law "law" (defScope s_law) Fc.a_law cdv A outer s H E).nox (stmtAt (bodyOf (stmtAt (defBody s_law) 7)) 0) (sM ⟨K, P, w⟩ (ms_law_4)) :=
    (z_asg (x_ix (x_v 3) (x_ix (x_lst false (a_cons x_int (a_cons (x_sub (x_v 2) x_int) (a_cons (x_call (ok__law_draw Fc) (hr.mono (by decide)) (by rfl) Fc.g__law_draw Fc.F__law_draw.kp (b__law_draw Fc) (a_cons (x_v 0) (a_cons x_int (a_cons (x_v 2) a_nil)))) a_nil)))) (x_v 6))) (g_tup (n := 3) rfl (g_cons (g_T (t_name 16 sc_law.nd rfl (by first | exact Or.inl rfl | exact Or.inr rfl))) (g_cons (g_T (t_name 11 sc_law.nd rfl (by first | exact Or.inl rfl | exact Or.inr rfl))) (g_cons (g_T (t_name 12 sc_law.nd rfl (by first | exact Or.inl rfl | exact Or.inr rfl))) g_nil)))))
noncomputable def ms_law_6 : MS := (mIfS (mNot (mT (mCb (m__law_same 5) (mCons (mCb m__law_held (mCons (mV 3) (mCons (mV 16) mNil))) (mCons (mTup (mCons (mC (.str "told")) (mCons (mTup (mCons (mV 11) (mCons (mV 12) mNil))) mNil))) mNil)))))
    (mRet (mC (.bl false)))
    mNext)
theorem st_law_6 (Fc : Facts P K mg) (cdv : Value) (A : Around) (outer : List Env) (s : Shared) (H : Hp) (E : XK) (hr : Room (6) (A.deeper (envOfC "law" (defScope s_law) s.heap.objs.size Fc.a_law cdv))) : PS (cxOf CX0 P w K mg base N_law "law" (defScope s_law) Fc.a_law cdv A outer s H E).nox (stmtAt (bodyOf (stmtAt (defBody s_law) 7)) 1) (sM ⟨K, P, w⟩ (ms_law_6)) :=
    (z_if (y_not (y_t (x_call (ok__law_same 5 Fc) (hr.mono (by decide)) (by rfl) Fc.g__law_same Fc.F__law_same.kp (b__law_same Fc) (a_cons (x_call (ok__law_held Fc) (hr.mono (by decide)) (by rfl) Fc.g__law_held Fc.F__law_held.kp (b__law_held Fc) (a_cons (x_v 3) (a_cons (x_v 16) a_nil))) (a_cons (x_tup (a_cons x_str (a_cons (x_tup (a_cons (x_v 11) (a_cons (x_v 12) a_nil))) a_nil))) a_nil)))))
    (z_one (z_ret x_bl))
    z_nil)
noncomputable def ms_law_8 : MS := (mIfS (mNot (mT (mCb (m__law_same 5) (mCons (mCb m__law_held (mCons (mV 9) (mCons (mOp fIx (mOp fIx (mV 3) (mV 7)) (mC (.int 0))) mNil))) (mCons (mTup (mCons (mC (.str "refused")) (mCons (mC (.str "trader")) (mCons (mOp fIx (mOp fIx (mV 3) (mV 7)) (mC (.int 0))) mNil)))) mNil)))))
    (mRet (mC (.bl false)))
    mNext)
theorem st_law_8 (Fc : Facts P K mg) (cdv : Value) (A : Around) (outer : List Env) (s : Shared) (H : Hp) (E : XK) (hr : Room (6) (A.deeper (envOfC "law" (defScope s_law) s.heap.objs.size Fc.a_law cdv))) : PS (cxOf CX0 P w K mg base N_law "law" (defScope s_law) Fc.a_law cdv A outer s H E).nox (stmtAt (bodyOf (stmtAt (defBody s_law) 10)) 0) (sM ⟨K, P, w⟩ (ms_law_8)) :=
    (z_if (y_not (y_t (x_call (ok__law_same 5 Fc) (hr.mono (by decide)) (by rfl) Fc.g__law_same Fc.F__law_same.kp (b__law_same Fc) (a_cons (x_call (ok__law_held Fc) (hr.mono (by decide)) (by rfl) Fc.g__law_held Fc.F__law_held.kp (b__law_held Fc) (a_cons (x_v 9) (a_cons (x_ix (x_ix (x_v 3) (x_v 7)) x_int) a_nil))) (a_cons (x_tup (a_cons x_str (a_cons x_str (a_cons (x_ix (x_ix (x_v 3) (x_v 7)) x_int) a_nil)))) a_nil)))))
    (z_one (z_ret x_bl))
    z_nil)
noncomputable def ms_law_10 : MS := (mIfS (mTB (mOp (fInU false) (mTup (mCons (mV 11) (mCons (mV 12) mNil))) (mOp fIx (mV 1) (mC (.int 1)))))
    (mAsg (mOp (fAdd false) (mV 12) (mC (.int 1))) (mgName 12))
    mNext)
theorem st_law_10 (Fc : Facts P K mg) (cdv : Value) (A : Around) (outer : List Env) (s : Shared) (H : Hp) (E : XK) (hr : Room (6) (A.deeper (envOfC "law" (defScope s_law) s.heap.objs.size Fc.a_law cdv))) : PS (cxOf CX0 P w K mg base N_law "law" (defScope s_law) Fc.a_law cdv A outer s H E).nox (stmtAt (bodyOf (stmtAt (defBody s_law) 15)) 0) (sM ⟨K, P, w⟩ (ms_law_10)) :=
    (z_if (y_k (k_inU hr) (x_tup (a_cons (x_v 11) (a_cons (x_v 12) a_nil))) (x_ix (x_v 1) x_int))
    (z_one (z_set 12 sc_law.nd rfl (by first | exact Or.inl rfl | exact Or.inr rfl) (x_add false (x_v 12) x_int)))
    z_nil)
noncomputable def ms_law_12 : MS := (mAsg (mCb m__law_market (mCons (mV 0) mNil)) (mgName 1))
theorem st_law_12 (Fc : Facts P K mg) (cdv : Value) (A : Around) (outer : List Env) (s : Shared) (H : Hp) (E : XK) (hr : Room (6) (A.deeper (envOfC "law" (defScope s_law) s.heap.objs.size Fc.a_law cdv))) : PS (cxOf CX0 P w K mg base N_law "law" (defScope s_law) Fc.a_law cdv A outer s H E).nox (stmtAt (defBody s_law) 0) (sM ⟨K, P, w⟩ (ms_law_12)) :=
    (z_set 1 sc_law.nd rfl (by first | exact Or.inl rfl | exact Or.inr rfl) (x_call (ok__law_market Fc) (hr.mono (by decide)) (by rfl) Fc.g__law_market Fc.F__law_market.kp (b__law_market Fc) (a_cons (x_v 0) a_nil)))
noncomputable def ms_law_14 : MS := (mAsg (mOp (fAdd false) (mC (.int 2)) (mCb m__law_draw (mCons (mV 0) (mCons (mC (.int 3)) (mCons (mC (.int 5)) mNil))))) (mgName 2))
theorem st_law_14 (Fc : Facts P K mg) (cdv : Value) (A : Around) (outer : List Env) (s : Shared) (H : Hp) (E : XK) (hr : Room (6) (A.deeper (envOfC "law" (defScope s_law) s.heap.objs.size Fc.a_law cdv))) : PS (cxOf CX0 P w K mg base N_law "law" (defScope s_law) Fc.a_law cdv A outer s H E).nox (stmtAt (defBody s_law) 1) (sM ⟨K, P, w⟩ (ms_law_14)) :=
    (z_set 2 sc_law.nd rfl (by first | exact Or.inl rfl | exact Or.inr rfl) (x_add false x_int (x_call (ok__law_draw Fc) (hr.mono (by decide)) (by rfl) Fc.g__law_draw Fc.F__law_draw.kp (b__law_draw Fc) (a_cons (x_v 0) (a_cons x_int (a_cons x_int a_nil))))))
noncomputable def ms_law_16 : MS := (mIfS (mTB (mOp fEq (mCb m__law_draw (mCons (mV 0) (mCons (mC (.int 4)) (mCons (mC (.int 11)) mNil)))) (mC (.int 0))))
    (mAsg (mC (.int 30)) (mgName 2))
    mNext)
theorem st_law_16 (Fc : Facts P K mg) (cdv : Value) (A : Around) (outer : List Env) (s : Shared) (H : Hp) (E : XK) (hr : Room (6) (A.deeper (envOfC "law" (defScope s_law) s.heap.objs.size Fc.a_law cdv))) : PS (cxOf CX0 P w K mg base N_law "law" (defScope s_law) Fc.a_law cdv A outer s H E).nox (stmtAt (defBody s_law) 2) (sM ⟨K, P, w⟩ (ms_law_16)) :=
    (z_if (y_k (k_eq hr) (x_call (ok__law_draw Fc) (hr.mono (by decide)) (by rfl) Fc.g__law_draw Fc.F__law_draw.kp (b__law_draw Fc) (a_cons (x_v 0) (a_cons x_int (a_cons x_int a_nil)))) x_int)
    (z_one (z_set 2 sc_law.nd rfl (by first | exact Or.inl rfl | exact Or.inr rfl) x_int))
    z_nil)
noncomputable def ms_law_18 : MS := (mAsg (mCb m__law_fair (mCons (mV 0) (mCons (mV 1) (mCons (mV 2) mNil)))) (mgName 3))
theorem st_law_18 (Fc : Facts P K mg) (cdv : Value) (A : Around) (outer : List Env) (s : Shared) (H : Hp) (E : XK) (hr : Room (6) (A.deeper (envOfC "law" (defScope s_law) s.heap.objs.size Fc.a_law cdv))) : PS (cxOf CX0 P w K mg base N_law "law" (defScope s_law) Fc.a_law cdv A outer s H E).nox (stmtAt (defBody s_law) 3) (sM ⟨K, P, w⟩ (ms_law_18)) :=
    (z_set 3 sc_law.nd rfl (by first | exact Or.inl rfl | exact Or.inr rfl) (x_call (ok__law_fair Fc) (hr.mono (by decide)) (by rfl) Fc.g__law_fair Fc.F__law_fair.kp (b__law_fair Fc) (a_cons (x_v 0) (a_cons (x_v 1) (a_cons (x_v 2) a_nil)))))
noncomputable def ms_law_20 : MS := (mFor (miSeq (mLst false (mCons (mV 3) (mCons (mSl false (mV 3) mNone (mSome (mC (.int 1)))) (mCons (mTup mNil) (mCons (mSl false (mV 3) (mSome (mC (.int 1))) mNone) mNil)))))) (.name 5)
    (ms_law_0))
theorem st_law_20 (Fc : Facts P K mg) (cdv : Value) (A : Around) (outer : List Env) (s : Shared) (H : Hp) (E : XK) (hr : Room (6) (A.deeper (envOfC "law" (defScope s_law) s.heap.objs.size Fc.a_law cdv))) : PS (cxOf CX0 P w K mg base N_law "law" (defScope s_law) Fc.a_law cdv A outer s H E).nox (stmtAt (defBody s_law) 5) (sM ⟨K, P, w⟩ (ms_law_20)) :=
    (z_for PassesOwn.never rfl (i_seq (x_lst false (a_cons (x_v 3) (a_cons (x_sl false (x_v 3) o_none (o_some x_int)) (a_cons (x_tup a_nil) (a_cons (x_sl false (x_v 3) (o_some x_int) o_none) a_nil)))))) (t_name 5 sc_law.nd rfl (by first | exact Or.inl rfl | exact Or.inr rfl))
    (z_one (st_law_0 Fc cdv A outer s H E hr)))
noncomputable def ms_law_22 : MS := (mFor (miSeq (mOp (fAdd false) (mCb m__law_bent (mCons (mV 0) (mCons (mV 1) (mCons (mV 3) mNil)))) (mCb m__law_two (mCons (mV 0) (mCons (mV 1) (mCons (mV 3) mNil)))))) (.name 5)
    (ms_law_2))
theorem st_law_22 (Fc : Facts P K mg) (cdv : Value) (A : Around) (outer : List Env) (s : Shared) (H : Hp) (E : XK) (hr : Room (6) (A.deeper (envOfC "law" (defScope s_law) s.heap.objs.size Fc.a_law cdv))) : PS (cxOf CX0 P w K mg base N_law "law" (defScope s_law) Fc.a_law cdv A outer s H E).nox (stmtAt (defBody s_law) 6) (sM ⟨K, P, w⟩ (ms_law_22)) :=
    (z_for PassesOwn.never rfl (i_seq (x_add false (x_call (ok__law_bent Fc) (hr.mono (by decide)) (by rfl) Fc.g__law_bent Fc.F__law_bent.kp (b__law_bent Fc) (a_cons (x_v 0) (a_cons (x_v 1) (a_cons (x_v 3) a_nil)))) (x_call (ok__law_two Fc) (hr.mono (by decide)) (by rfl) Fc.g__law_two Fc.F__law_two.kp (b__law_two Fc) (a_cons (x_v 0) (a_cons (x_v 1) (a_cons (x_v 3) a_nil)))))) (t_name 5 sc_law.nd rfl (by first | exact Or.inl rfl | exact Or.inr rfl))
    (z_one (st_law_2 Fc cdv A outer s H E hr)))
noncomputable def ms_law_24 : MS := (mFor (miRng1 (mCons (mC (.int 3)) mNil)) (.name 6)
    (mSeq (ms_law_4)
    (ms_law_6)))
theorem st_law_24 (Fc : Facts P K mg) (cdv : Value) (A : Around) (outer : List Env) (s : Shared) (H : Hp) (E : XK) (hr : Room (6) (A.deeper (envOfC "law" (defScope s_law) s.heap.objs.size Fc.a_law cdv))) : PS (cxOf CX0 P w K mg base N_law "law" (defScope s_law) Fc.a_law cdv A outer s H E).nox (stmtAt (defBody s_law) 7) (sM ⟨K, P, w⟩ (ms_law_24)) :=
    (z_for PassesOwn.never rfl (i_rng1 (by rfl) Fc.b_range (a_cons x_int a_nil)) (t_name 6 sc_law.nd rfl (by first | exact Or.inl rfl | exact Or.inr rfl))
    (z_cons (st_law_4 Fc cdv A outer s H E hr)
    (z_one (st_law_6 Fc cdv A outer s H E hr))))
noncomputable def ms_law_26 : MS := (mAsg (mCb m__law_draw (mCons (mV 0) (mCons (mC (.int 47)) (mCons (mV 2) mNil)))) (mgName 7))
theorem st_law_26 (Fc : Facts P K mg) (cdv : Value) (A : Around) (outer : List Env) (s : Shared) (H : Hp) (E : XK) (hr : Room (6) (A.deeper (envOfC "law" (defScope s_law) s.heap.objs.size Fc.a_law cdv))) : PS (cxOf CX0 P w K mg base N_law "law" (defScope s_law) Fc.a_law cdv A outer s H E).nox (stmtAt (defBody s_law) 8) (sM ⟨K, P, w⟩ (ms_law_26)) :=
    (z_set 7 sc_law.nd rfl (by first | exact Or.inl rfl | exact Or.inr rfl) (x_call (ok__law_draw Fc) (hr.mono (by decide)) (by rfl) Fc.g__law_draw Fc.F__law_draw.kp (b__law_draw Fc) (a_cons (x_v 0) (a_cons x_int (a_cons (x_v 2) a_nil)))))
noncomputable def ms_law_28 : MS := (mAsg (mOp (fAdd false) (mSl false (mV 3) mNone (mSome (mV 7))) (mSl false (mV 3) (mSome (mOp (fAdd false) (mV 7) (mC (.int 1)))) mNone)) (mgName 8))
theorem st_law_28 (Fc : Facts P K mg) (cdv : Value) (A : Around) (outer : List Env) (s : Shared) (H : Hp) (E : XK) (hr : Room (6) (A.deeper (envOfC "law" (defScope s_law) s.heap.objs.size Fc.a_law cdv))) : PS (cxOf CX0 P w K mg base N_law "law" (defScope s_law) Fc.a_law cdv A outer s H E).nox (stmtAt (defBody s_law) 9) (sM ⟨K, P, w⟩ (ms_law_28)) :=
    (z_set 8 sc_law.nd rfl (by first | exact Or.inl rfl | exact Or.inr rfl) (x_add false (x_sl false (x_v 3) o_none (o_some (x_v 7))) (x_sl false (x_v 3) (o_some (x_add false (x_v 7) x_int)) o_none)))
noncomputable def ms_law_30 : MS := (mFor (miSeq (mLst false (mCons (mV 8) (mCons (mTup mNil) mNil)))) (.name 9)
    (ms_law_8))
theorem st_law_30 (Fc : Facts P K mg) (cdv : Value) (A : Around) (outer : List Env) (s : Shared) (H : Hp) (E : XK) (hr : Room (6) (A.deeper (envOfC "law" (defScope s_law) s.heap.objs.size Fc.a_law cdv))) : PS (cxOf CX0 P w K mg base N_law "law" (defScope s_law) Fc.a_law cdv A outer s H E).nox (stmtAt (defBody s_law) 10) (sM ⟨K, P, w⟩ (ms_law_30)) :=
    (z_for PassesOwn.never rfl (i_seq (x_lst false (a_cons (x_v 8) (a_cons (x_tup a_nil) a_nil)))) (t_name 9 sc_law.nd rfl (by first | exact Or.inl rfl | exact Or.inr rfl))
    (z_one (st_law_8 Fc cdv A outer s H E hr)))
noncomputable def ms_law_32 : MS := (mAsg (mCb fTuple (mCons (mLc false (miEnumA (mCons (mV 3) mNil)) (.tup [(.name 6), (.name 17)]) mYes (mOp (fAdd false) (mTup (mCons (mOp fIx (mV 17) (mC (.int 0))) mNil)) (mOp fIx (mOp fIx (mV 1) (mC (.int 1))) (mCb m__law_draw (mCons (mV 0) (mCons (mOp (fAdd false) (mC (.int 800)) (mV 6)) (mCons (mCb fLen (mCons (mOp fIx (mV 1) (mC (.int 1))) mNil)) mNil)))))) [6, 17]) mNil)) (mgName 10))
theorem st_law_32 (Fc : Facts P K mg) (cdv : Value) (A : Around) (outer : List Env) (s : Shared) (H : Hp) (E : XK) (hr : Room (6) (A.deeper (envOfC "law" (defScope s_law) s.heap.objs.size Fc.a_law cdv))) : PS (cxOf CX0 P w K mg base N_law "law" (defScope s_law) Fc.a_law cdv A outer s H E).nox (stmtAt (defBody s_law) 11) (sM ⟨K, P, w⟩ (ms_law_32)) :=
    (z_set 10 sc_law.nd rfl (by first | exact Or.inl rfl | exact Or.inr rfl) (x_ct c_tuple (by rfl) Fc.b_tuple bt_tuple (a_cons (x_lc false (T := (.tup [(.name 6), (.name 17)])) (own := [("k", 6), ("row", 17)]) rfl sc_law.nd (i_enumA (by rfl) Fc.b_enumerate (a_cons (x_v 3) a_nil)) (by first | exact blkOk_by (N := N_law) (sc := defScope s_law) (by decide +kernel) | exact blkOk_by (by kernel_rfl)) rfl (fun _ _ _ _ _ => (t_tup rfl (ts_cons (t_name 6 sc_law.nd rfl (by first | exact Or.inl rfl | exact Or.inr rfl)) (ts_cons (t_name 17 sc_law.nd rfl (by first | exact Or.inl rfl | exact Or.inr rfl)) ts_nil)))) (fun _ _ _ _ _ => cs_nil) (fun _ _ _ _ _ => (x_add false (x_tup (a_cons (x_ix (x_v 17) x_int) a_nil)) (x_ix (x_ix (x_v 1) x_int) (x_call (ok__law_draw Fc) (hr.mono (by decide)) (by rfl) Fc.g__law_draw Fc.F__law_draw.kp (b__law_draw Fc) (a_cons (x_v 0) (a_cons (x_add false x_int (x_v 6)) (a_cons (x_cb c_len (by rfl) Fc.b_len bt_len (a_cons (x_ix (x_v 1) x_int) a_nil)) a_nil)))))))) a_nil)))
noncomputable def ms_law_34 : MS := (mIfS (mOr (mTB (mOp (fIsB true) (mCb m_is_start_fair (mCons (mV 1) (mCons (mV 10) mNil))) (mC (.bl true)))) (mTB (mOp (fIsB true) (mCb m_is_start_fair (mCons (mV 1) (mCons (mTup mNil) mNil))) (mC (.bl true)))))
    (mRet (mC (.bl false)))
    mNext)
theorem st_law_34 (Fc : Facts P K mg) (cdv : Value) (A : Around) (outer : List Env) (s : Shared) (H : Hp) (E : XK) (hr : Room (6) (A.deeper (envOfC "law" (defScope s_law) s.heap.objs.size Fc.a_law cdv))) : PS (cxOf CX0 P w K mg base N_law "law" (defScope s_law) Fc.a_law cdv A outer s H E).nox (stmtAt (defBody s_law) 12) (sM ⟨K, P, w⟩ (ms_law_34)) :=
    (z_if (y_or (y_k k_isnotB (x_call (ok_is_start_fair Fc) (hr.mono (by decide)) (by rfl) Fc.g_is_start_fair Fc.F_is_start_fair.kp (b_is_start_fair Fc) (a_cons (x_v 1) (a_cons (x_v 10) a_nil))) x_bl) (y_or1 (y_k k_isnotB (x_call (ok_is_start_fair Fc) (hr.mono (by decide)) (by rfl) Fc.g_is_start_fair Fc.F_is_start_fair.kp (b_is_start_fair Fc) (a_cons (x_v 1) (a_cons (x_tup a_nil) a_nil))) x_bl))).pt
    (z_one (z_ret x_bl))
    z_nil)
noncomputable def ms_law_36 : MS := (mAsg (mOp fIx (mV 4) (mCb m__law_draw (mCons (mV 0) (mCons (mC (.int 48)) (mCons (mCb fLen (mCons (mV 4) mNil)) mNil))))) (mgName 11))
theorem st_law_36 (Fc : Facts P K mg) (cdv : Value) (A : Around) (outer : List Env) (s : Shared) (H : Hp) (E : XK) (hr : Room (6) (A.deeper (envOfC "law" (defScope s_law) s.heap.objs.size Fc.a_law cdv))) : PS (cxOf CX0 P w K mg base N_law "law" (defScope s_law) Fc.a_law cdv A outer s H E).nox (stmtAt (defBody s_law) 13) (sM ⟨K, P, w⟩ (ms_law_36)) :=
    (z_set 11 sc_law.nd rfl (by first | exact Or.inl rfl | exact Or.inr rfl) (x_ix (x_v 4) (x_call (ok__law_draw Fc) (hr.mono (by decide)) (by rfl) Fc.g__law_draw Fc.F__law_draw.kp (b__law_draw Fc) (a_cons (x_v 0) (a_cons x_int (a_cons (x_cb c_len (by rfl) Fc.b_len bt_len (a_cons (x_v 4) a_nil)) a_nil))))))
noncomputable def ms_law_38 : MS := (mAsg (mCb m__law_draw (mCons (mV 0) (mCons (mC (.int 49)) (mCons (mC (.int 14)) mNil)))) (mgName 12))
theorem st_law_38 (Fc : Facts P K mg) (cdv : Value) (A : Around) (outer : List Env) (s : Shared) (H : Hp) (E : XK) (hr : Room (6) (A.deeper (envOfC "law" (defScope s_law) s.heap.objs.size Fc.a_law cdv))) : PS (cxOf CX0 P w K mg base N_law "law" (defScope s_law) Fc.a_law cdv A outer s H E).nox (stmtAt (defBody s_law) 14) (sM ⟨K, P, w⟩ (ms_law_38)) :=
    (z_set 12 sc_law.nd rfl (by first | exact Or.inl rfl | exact Or.inr rfl) (x_call (ok__law_draw Fc) (hr.mono (by decide)) (by rfl) Fc.g__law_draw Fc.F__law_draw.kp (b__law_draw Fc) (a_cons (x_v 0) (a_cons x_int (a_cons x_int a_nil)))))
noncomputable def ms_law_40 : MS := (mFor (miRng1 (mCons (mC (.int 4)) mNil)) (.name 13)
    (ms_law_10))
theorem st_law_40 (Fc : Facts P K mg) (cdv : Value) (A : Around) (outer : List Env) (s : Shared) (H : Hp) (E : XK) (hr : Room (6) (A.deeper (envOfC "law" (defScope s_law) s.heap.objs.size Fc.a_law cdv))) : PS (cxOf CX0 P w K mg base N_law "law" (defScope s_law) Fc.a_law cdv A outer s H E).nox (stmtAt (defBody s_law) 15) (sM ⟨K, P, w⟩ (ms_law_40)) :=
    (z_for PassesOwn.never rfl (i_rng1 (by rfl) Fc.b_range (a_cons x_int a_nil)) (t_name 13 sc_law.nd rfl (by first | exact Or.inl rfl | exact Or.inr rfl))
    (z_one (st_law_10 Fc cdv A outer s H E hr)))
noncomputable def ms_law_42 : MS := (mIfS (mTB (mOp (fIsB true) (mCb m_is_start_fair (mCons (mV 1) (mCons (mCb m__law_put (mCons (mV 10) (mCons (mV 7) (mCons (mTup (mCons (mOp fIx (mOp fIx (mV 3) (mV 7)) (mC (.int 0))) (mCons (mV 11) (mCons (mV 12) mNil)))) mNil)))) mNil))) (mC (.bl false))))
    (mRet (mC (.bl false)))
    mNext)
theorem st_law_42 (Fc : Facts P K mg) (cdv : Value) (A : Around) (outer : List Env) (s : Shared) (H : Hp) (E : XK) (hr : Room (6) (A.deeper (envOfC "law" (defScope s_law) s.heap.objs.size Fc.a_law cdv))) : PS (cxOf CX0 P w K mg base N_law "law" (defScope s_law) Fc.a_law cdv A outer s H E).nox (stmtAt (defBody s_law) 16) (sM ⟨K, P, w⟩ (ms_law_42)) :=
    (z_if (y_k k_isnotB (x_call (ok_is_start_fair Fc) (hr.mono (by decide)) (by rfl) Fc.g_is_start_fair Fc.F_is_start_fair.kp (b_is_start_fair Fc) (a_cons (x_v 1) (a_cons (x_call (ok__law_put Fc) (hr.mono (by decide)) (by rfl) Fc.g__law_put Fc.F__law_put.kp (b__law_put Fc) (a_cons (x_v 10) (a_cons (x_v 7) (a_cons (x_tup (a_cons (x_ix (x_ix (x_v 3) (x_v 7)) x_int) (a_cons (x_v 11) (a_cons (x_v 12) a_nil)))) a_nil)))) a_nil))) x_bl)
    (z_one (z_ret x_bl))
    z_nil)
noncomputable def ms_law_44 : MS := (mAsg (mTup (mCons (mOp fIx (mOp fIx (mOp fIx (mV 1) (mC (.int 1))) (mC (.int 0))) (mC (.int 0))) (mCons (mOp fIx (mOp fIx (mOp fIx (mV 1) (mC (.int 1))) (mUn fNeg (mC (.int 1)))) (mC (.int 1))) mNil))) (mgName 14))
theorem st_law_44 (Fc : Facts P K mg) (cdv : Value) (A : Around) (outer : List Env) (s : Shared) (H : Hp) (E : XK) (hr : Room (6) (A.deeper (envOfC "law" (defScope s_law) s.heap.objs.size Fc.a_law cdv))) : PS (cxOf CX0 P w K mg base N_law "law" (defScope s_law) Fc.a_law cdv A outer s H E).nox (stmtAt (defBody s_law) 17) (sM ⟨K, P, w⟩ (ms_law_44)) :=
    (z_set 14 sc_law.nd rfl (by first | exact Or.inl rfl | exact Or.inr rfl) (x_tup (a_cons (x_ix (x_ix (x_ix (x_v 1) x_int) x_int) x_int) (a_cons (x_ix (x_ix (x_ix (x_v 1) x_int) (x_neg x_int)) x_int) a_nil))))
noncomputable def ms_law_46 : MS := (mIfS (mNot (mT (mCb (m__law_same 5) (mCons (mCb m_is_start_fair (mCons (mV 1) (mCons (mCb m__law_put (mCons (mV 10) (mCons (mV 7) (mCons (mOp (fAdd false) (mTup (mCons (mOp fIx (mOp fIx (mV 3) (mV 7)) (mC (.int 0))) mNil)) (mV 14)) mNil)))) mNil))) (mCons (mOp (fInU false) (mV 14) (mOp fIx (mV 1) (mC (.int 1)))) mNil)))))
    (mRet (mC (.bl false)))
    mNext)
theorem st_law_46 (Fc : Facts P K mg) (cdv : Value) (A : Around) (outer : List Env) (s : Shared) (H : Hp) (E : XK) (hr : Room (6) (A.deeper (envOfC "law" (defScope s_law) s.heap.objs.size Fc.a_law cdv))) : PS (cxOf CX0 P w K mg base N_law "law" (defScope s_law) Fc.a_law cdv A outer s H E).nox (stmtAt (defBody s_law) 18) (sM ⟨K, P, w⟩ (ms_law_46)) :=
    (z_if (y_not (y_t (x_call (ok__law_same 5 Fc) (hr.mono (by decide)) (by rfl) Fc.g__law_same Fc.F__law_same.kp (b__law_same Fc) (a_cons (x_call (ok_is_start_fair Fc) (hr.mono (by decide)) (by rfl) Fc.g_is_start_fair Fc.F_is_start_fair.kp (b_is_start_fair Fc) (a_cons (x_v 1) (a_cons (x_call (ok__law_put Fc) (hr.mono (by decide)) (by rfl) Fc.g__law_put Fc.F__law_put.kp (b__law_put Fc) (a_cons (x_v 10) (a_cons (x_v 7) (a_cons (x_add false (x_tup (a_cons (x_ix (x_ix (x_v 3) (x_v 7)) x_int) a_nil)) (x_v 14)) a_nil)))) a_nil))) (a_cons (x_k (k_inU hr) (x_v 14) (x_ix (x_v 1) x_int)) a_nil)))))
    (z_one (z_ret x_bl))
    z_nil)
noncomputable def ms_law_48 : MS := (mAsg (mCb fSum (mCons (mLc false (miSeq (mV 3)) (.name 17) mYes (mOp fIx (mV 17) (mC (.int 2))) [17]) mNil)) (mgName 15))
theorem st_law_48 (Fc : Facts P K mg) (cdv : Value) (A : Around) (outer : List Env) (s : Shared) (H : Hp) (E : XK) (hr : Room (6) (A.deeper (envOfC "law" (defScope s_law) s.heap.objs.size Fc.a_law cdv))) : PS (cxOf CX0 P w K mg base N_law "law" (defScope s_law) Fc.a_law cdv A outer s H E).nox (stmtAt (defBody s_law) 19) (sM ⟨K, P, w⟩ (ms_law_48)) :=
    (z_set 15 sc_law.nd rfl (by first | exact Or.inl rfl | exact Or.inr rfl) (x_cb c_sum (by rfl) Fc.b_sum bt_sum (a_cons (x_lc false (T := (.name 17)) (own := [("row", 17)]) rfl sc_law.nd (i_seq (x_v 3)) (by first | exact blkOk_by (N := N_law) (sc := defScope s_law) (by decide +kernel) | exact blkOk_by (by kernel_rfl)) rfl (fun _ _ _ _ _ => (t_name 17 sc_law.nd rfl (by first | exact Or.inl rfl | exact Or.inr rfl))) (fun _ _ _ _ _ => cs_nil) (fun _ _ _ _ _ => (x_ix (x_v 17) x_int))) a_nil)))
noncomputable def ms_law_50 : MS := (mIfS (mOr (mNot (mT (mCb (m__law_same 5) (mCons (mCb m_total_money (mCons (mV 3) mNil)) (mCons (mV 15) mNil))))) (mNot (mT (mCb (m__law_same 5) (mCons (mCb m_total_money (mCons (mTup mNil) mNil)) (mCons (mC (.int 0)) mNil))))))
    (mRet (mC (.bl false)))
    mNext)
theorem st_law_50 (Fc : Facts P K mg) (cdv : Value) (A : Around) (outer : List Env) (s : Shared) (H : Hp) (E : XK) (hr : Room (6) (A.deeper (envOfC "law" (defScope s_law) s.heap.objs.size Fc.a_law cdv))) : PS (cxOf CX0 P w K mg base N_law "law" (defScope s_law) Fc.a_law cdv A outer s H E).nox (stmtAt (defBody s_law) 20) (sM ⟨K, P, w⟩ (ms_law_50)) :=
    (z_if (y_or (y_not (y_t (x_call (ok__law_same 5 Fc) (hr.mono (by decide)) (by rfl) Fc.g__law_same Fc.F__law_same.kp (b__law_same Fc) (a_cons (x_call (ok_total_money Fc) (hr.mono (by decide)) (by rfl) Fc.g_total_money Fc.F_total_money.kp (b_total_money Fc) (a_cons (x_v 3) a_nil)) (a_cons (x_v 15) a_nil))))) (y_or1 (y_not (y_t (x_call (ok__law_same 5 Fc) (hr.mono (by decide)) (by rfl) Fc.g__law_same Fc.F__law_same.kp (b__law_same Fc) (a_cons (x_call (ok_total_money Fc) (hr.mono (by decide)) (by rfl) Fc.g_total_money Fc.F_total_money.kp (b_total_money Fc) (a_cons (x_tup a_nil) a_nil)) (a_cons x_int a_nil))))))).pt
    (z_one (z_ret x_bl))
    z_nil)
noncomputable def ms_law_52 : MS := (mRet (mCb (m__law_same 5) (mCons (mCb m__law_checked (mCons (mV 1) (mCons (mV 3) mNil))) (mCons (mTup (mCons (mC (.str "told")) (mCons (mV 2) mNil))) mNil))))
theorem st_law_52 (Fc : Facts P K mg) (cdv : Value) (A : Around) (outer : List Env) (s : Shared) (H : Hp) (E : XK) (hr : Room (6) (A.deeper (envOfC "law" (defScope s_law) s.heap.objs.size Fc.a_law cdv))) : PS (cxOf CX0 P w K mg base N_law "law" (defScope s_law) Fc.a_law cdv A outer s H E).nox (stmtAt (defBody s_law) 21) (sM ⟨K, P, w⟩ (ms_law_52)) :=
    (z_ret (x_call (ok__law_same 5 Fc) (hr.mono (by decide)) (by rfl) Fc.g__law_same Fc.F__law_same.kp (b__law_same Fc) (a_cons (x_call (ok__law_checked Fc) (hr.mono (by decide)) (by rfl) Fc.g__law_checked Fc.F__law_checked.kp (b__law_checked Fc) (a_cons (x_v 1) (a_cons (x_v 3) a_nil))) (a_cons (x_tup (a_cons x_str (a_cons (x_v 2) a_nil))) a_nil))))
noncomputable def m_law : List D → Sto → Option (D × Sto) := mDef 18 1 (mSeq (ms_law_12)
    (mSeq (ms_law_14)
    (mSeq (ms_law_16)
    (mSeq (ms_law_18)
    (mSeq (mAsg (mOp fIx (mV 1) (mC (.int 0))) (mgName 4))
    (mSeq (ms_law_20)
    (mSeq (ms_law_22)
    (mSeq (ms_law_24)
    (mSeq (ms_law_26)
    (mSeq (ms_law_28)
    (mSeq (ms_law_30)
    (mSeq (ms_law_32)
    (mSeq (ms_law_34)
    (mSeq (ms_law_36)
    (mSeq (ms_law_38)
    (mSeq (ms_law_40)
    (mSeq (ms_law_42)
    (mSeq (ms_law_44)
    (mSeq (ms_law_46)
    (mSeq (ms_law_48)
    (mSeq (ms_law_50)
    (ms_law_52))))))))))))))))))))))
theorem ok_law (Fc : Facts P K mg) : FnOk P w K mg base CX0 7 Fc.a_law Fc.d_law ["script"] (spM ⟨K, P, w⟩ m_law) := x_def (k := 6) Fc.F_law sc_law rfl rfl fun cdv A outer s H E hr =>
    (z_cons (st_law_12 Fc cdv A outer s H E hr)
    (z_cons (st_law_14 Fc cdv A outer s H E hr)
    (z_cons (st_law_16 Fc cdv A outer s H E hr)
    (z_cons (st_law_18 Fc cdv A outer s H E hr)
    (z_cons (z_set 4 sc_law.nd rfl (by first | exact Or.inl rfl | exact Or.inr rfl) (x_ix (x_v 1) x_int))
    (z_cons (st_law_20 Fc cdv A outer s H E hr)
    (z_cons (st_law_22 Fc cdv A outer s H E hr)
    (z_cons (st_law_24 Fc cdv A outer s H E hr)
    (z_cons (st_law_26 Fc cdv A outer s H E hr)
    (z_cons (st_law_28 Fc cdv A outer s H E hr)
    (z_cons (st_law_30 Fc cdv A outer s H E hr)
    (z_cons (st_law_32 Fc cdv A outer s H E hr)
    (z_cons (st_law_34 Fc cdv A outer s H E hr)
    (z_cons (st_law_36 Fc cdv A outer s H E hr)
    (z_cons (st_law_38 Fc cdv A outer s H E hr)
    (z_cons (st_law_40 Fc cdv A outer s H E hr)
    (z_cons (st_law_42 Fc cdv A outer s H E hr)
    (z_cons (st_law_44 Fc cdv A outer s H E hr)
    (z_cons (st_law_46 Fc cdv A outer s H E hr)
    (z_cons (st_law_48 Fc cdv A outer s H E hr)
    (z_cons (st_law_50 Fc cdv A outer s H E hr)
    (z_one (st_law_52 Fc cdv A outer s H E hr)))))))))))))))))))))))
end
end K21


namespace K21
open PySem PySem.Spec PyProof.Rows L2 My
local macro_rules | `(tactic| walk_at "ev") => `(tactic| try simp only [mDef, mSeq, mAsg, mV_eq, mC, mOp, mUn, mCb, mNil, mCons, mTup, mIfS, mTB, mT, mRet, mNext, mgTup, mgCons, mgNil, mgT, mgName, setTg, setTgs, mIf, mAnd, mOr, mNot, mAndV, mOrV, mNotV, fB, fLt_int, fLe, fGt, fGe, fAdd_int, fSub_int, fMod_int, fDiv_int, fMul_int, fNeg_int, fIn_tup, fIn_lst, settle_same, fIx, look_tup, look_d, look_lst, look_fro, lookL_lst, atI_0, atI_1, atI_2, atI_3, fLen_tup, fLen_lst, miSeq, srcOf, mPar, mAug, mRetN, fTuple_lst, fTuple_tup, alloc_f, fEq_int, fMaxL_2, fMinL_2, fSorted_ints, fIsN_int, fIsN_non, fNe_int, mDrop, wipeE, mYes, My.isNon, miRng1, miRng2, fInt_int, truD, fShl_int, fPow_int, fAbs_int, fEq_bl, fIsi_tt, fIsi_it, fIsi_ii, fIsi_ib, fIsi_bt, fIsi_bi, fIsi_bb, fIsi_tb, fIsi_ti, last_concat, List.dropLast_concat, look_loc, lookL_loc, fLen_loc, ixN_0, ixN_1, ixN_2, ixN_3, fSetL_loc, fAppend_loc, fPop_loc, fExtend_loc, mgSub, mMt, alloc_t, mFrz, mSl, mRev, mNone, mSome, mLst, fNeg, fSet_tup, fSet_lst, fInS_int, fSortS_set, fAll_lst, fAdd_tup, fEq_str, fNe_str, fIsN_str, fIsN_bl, fIsN_tup, fIsN_lst, fIsi_si, fIsi_ss, fIsi_sb, fIsi_st, fIsi_ts, fIsB_non, fIsB_int, fIsB_str, fIsB_tup, fIsB_bl, fAdd_str, fTuple_loc, fLen_fro, mNotT, mCV, mBreak, mCont, z0, z1, z2, z3, z4, z5, z6, z7, z8, z9, List.lookup_cons,
  b_some, b_none, m_some, Option.join_some, List.getElem?_cons_zero, List.getElem?_cons_succ, List.set_cons_zero, List.set_cons_succ, List.map_cons, List.map_nil, List.length_cons, List.length_nil, List.replicate, List.cons_append, List.nil_append, Nat.reduceAdd, Nat.reduceSub, if_true, if_false, reduceIte, reduceCtorEq, ite_bind, Bool.false_eq_true, decide_eq_true_eq, List.length_map, decide_true, decide_false, Bool.not_true, Bool.not_false])
local macro_rules | `(tactic| walk_at "nx") => `(tactic| (refine (mSeq_nx (by (walk_at "ev"; rfl))).trans ?_))
abbrev scr (ns : List Int) : D := .fro (ns.map .int)
theorem draw_tail {x : D} {p m c : Int} (hp : 0 ≤ p ∧ p < 100000) (hm : 0 < m ∧ m < 1000000) (hc : 0 ≤ c ∧ c < 1000003) : ∃ v, 0 ≤ v ∧ v < m ∧ ∀ st, (mSeq (ms__law_draw_2)
    (mSeq (mAsg (mOp fMod (mOp (fMul false) (mV 4) (mV 4)) (mC (.int 999983))) (mgName 4))
    (mRet (mOp fMod (mOp (fAdd false) (mOp fDiv (mV 4) (mC (.int 7))) (mV 4)) (mV 2))))) [some x, some (.int p), some (.int m), some (.int c), none] st = some (.rt (.int v), st) := by
  let t : Int := c * 613 + p * 7919 + 271
  refine ⟨((t * t % 999983) / 7 + t * t % 999983) % m, Int.emod_nonneg _ (by omega), Int.emod_lt_of_pos _ hm.1, fun st => ?_⟩
  unfold ms__law_draw_2
  walk_at "ev"
  rw [cMul_l (i := c) (by omega), cMul_l (i := p) (by omega)]
  walk_at "ev"
  rw [cMul_l (i := c * 613 + p * 7919 + 271) (by omega)]
  walk_at "ev"
  rw [cMod_ok (j := 999983) (by omega)]
  walk_at "ev"
  rw [cDiv_ok (j := 7) (by omega) (by omega)]
  walk_at "ev"
  rw [cMod_ok hm.1]
  walk_at "ev"
  rfl
theorem draw_ex (ns : List Int) (hn : ns.length ≤ 63) {p m : Int} (hp : 0 ≤ p ∧ p < 100000) (hm : 0 < m ∧ m < 1000000) : ∃ v, 0 ≤ v ∧ v < m ∧ ∀ st, m__law_draw [scr ns, .int p, .int m] st = some (.int v, st) := by
  by_cases h0 : ns.length = 0
  · obtain ⟨v, h1, h2, h3⟩ := draw_tail (x := scr ns) (c := 0) hp hm (by omega)
    refine ⟨v, h1, h2, fun st => mDef_rt rfl ((mSeq_nx (en' := [some (scr ns), some (.int p), some (.int m), some (.int 0), none]) (st' := st) ?_).trans ((mSeq_nx (en' := [some (scr ns), some (.int p), some (.int m), some (.int 0), none]) (st' := st) ?_).trans (h3 st)))⟩
    · walk_at "ev"
    · walk_at "ev"
      walk_at "ev"
      rw [if_neg (by omega)]
  · have hl : (0 : Int) < ns.length := by omega
    obtain ⟨x, hx, _⟩ := atI_mem (xs := ns) (i := p % ns.length) (Int.emod_nonneg _ (by omega)) (Int.emod_lt_of_pos _ hl)
    obtain ⟨v, h1, h2, h3⟩ := draw_tail (x := scr ns) (c := x % 1000003) hp hm ⟨Int.emod_nonneg _ (by omega), Int.emod_lt_of_pos _ (by omega)⟩
    refine ⟨v, h1, h2, fun st => mDef_rt rfl ((mSeq_nx (en' := [some (scr ns), some (.int p), some (.int m), some (.int 0), none]) (st' := st) ?_).trans ((mSeq_nx (en' := [some (scr ns), some (.int p), some (.int m), some (.int (x % 1000003)), none]) (st' := st) ?_).trans (h3 st)))⟩
    · walk_at "ev"
    · unfold ms__law_draw_0
      walk_at "ev"
      rw [if_pos (by omega)]
      walk_at "ev"
      rw [cMod_ok hl]
      walk_at "ev"
      rw [atI_map, hx]
      walk_at "ev"
      rw [cMod_ok (by omega)]
      walk_at "ev"
/-! ### names -/
def SG : List Nat := [97, 98, 99, 100, 101, 102, 103, 104, 105, 106, 107, 108, 109, 110, 111, 112, 113, 114, 115, 116, 117, 118, 119, 120, 121, 122, 48, 49, 50, 51, 52, 53, 54, 55, 56, 57]
theorem sg_eq : ("abcdefghijklmnopqrstuvwxyz0123456789" : Str).cps.toList = SG := by decide +kernel
theorem sg_len : ("abcdefghijklmnopqrstuvwxyz0123456789" : Str).length ≤ sizeLine := szle (by decide +kernel)
theorem sg_nd : SG.Nodup := by decide +kernel
theorem sg_q : ("q" : Str) = ⟨#[113]⟩ := by decide +kernel
/-- a name: signs of ours, some -/
structure Nm (s : Str) : Prop where
  ne : s.cps.toList ≠ []
  sg : ∀ c ∈ s.cps.toList, c ∈ SG
theorem Nm.not_empty {s : Str} (h : Nm s) : s ≠ ("" : Str) := fun e => h.ne (by rw [e]; decide +kernel)
theorem app_cps (x y : Str) : (x ++ y).cps.toList = x.cps.toList ++ y.cps.toList := by
  show (x.cps ++ y.cps).toList = _
  rw [Array.toList_append]
theorem one_cps (c : Nat) : (⟨#[c]⟩ : Str).cps.toList = [c] := rfl
theorem len_cps (x : Str) : x.length = x.cps.toList.length := by simp [Str.length]
theorem Nm.one {c : Nat} (h : c ∈ SG) : Nm ⟨#[c]⟩ := ⟨by simp, fun d hd => by
  rw [one_cps, List.mem_singleton] at hd
  rw [hd]
  exact h⟩
theorem Nm.app {x y : Str} (h : Nm x) (k : Nm y) : Nm (x ++ y) := ⟨by rw [app_cps]; intro e; exact h.ne (List.append_eq_nil_iff.mp e).1, fun c hc => by
  rw [app_cps] at hc
  rcases List.mem_append.mp hc with hc | hc
  · exact h.sg c hc
  · exact k.sg c hc⟩
def lastC (s : Str) : Option Nat := s.cps.toList.getLast?
theorem last_app (x : Str) (c : Nat) : lastC (x ++ ⟨#[c]⟩) = some c := by
  unfold lastC
  rw [app_cps, one_cps, List.getLast?_append]
  rfl
theorem last_pre (x y : Str) (h : y.cps.toList ≠ []) : lastC (x ++ y) = lastC y := by
  unfold lastC
  rw [app_cps, List.getLast?_append]
  obtain ⟨c, hc⟩ : ∃ c, y.cps.toList.getLast? = some c := by
    cases e : y.cps.toList.getLast? with
    | none => exact absurd (List.getLast?_eq_none_iff.mp e) h
    | some c => exact ⟨c, rfl⟩
  rw [hc]
  rfl
theorem sign_at {i : Int} (h : 0 ≤ i ∧ i < 36) : ∃ c, c ∈ SG ∧ SG[i.toNat]? = some c ∧ ∀ st, fIxA (.str "abcdefghijklmnopqrstuvwxyz0123456789") (.int i) st = some (.str ⟨#[c]⟩, st) := by
  have hl : SG.length = 36 := rfl
  have hlt : i.toNat < SG.length := by omega
  refine ⟨SG[i.toNat], List.getElem_mem _, List.getElem?_eq_getElem hlt, fun st => ?_⟩
  rw [fIxA_str, if_pos sg_len, sg_eq, atI_nat h.1 (by omega)]
  rfl
def LT : List Nat := [97, 98, 99, 100, 101, 102, 103, 104, 105, 106, 107, 108, 109, 110, 111, 112, 113, 114, 115, 116, 117, 118, 119, 120, 121, 122]
def FG : List Nat := [48, 49, 50, 51, 52, 53, 54, 55, 56, 57]
theorem sg_split : SG = LT ++ FG := rfl
theorem lt_at {i c : Nat} (h : i < 26) (e : SG[i]? = some c) : c ∈ LT := by
  have k : (List.range 26).all (fun i => (SG[i]?).all fun c => decide (c ∈ LT)) = true := by decide +kernel
  have k1 := List.all_eq_true.mp k i (List.mem_range.mpr h)
  rw [e] at k1
  exact of_decide_eq_true k1
def hdC (s : Str) : Option Nat := s.cps.toList.head?
theorem hd_app (x y : Str) (h : x.cps.toList ≠ []) : hdC (x ++ y) = hdC x := by
  unfold hdC
  rw [app_cps]
  cases e : x.cps.toList with
  | nil => exact absurd e h
  | cons c r => rfl
/-- the kept words -/
def KW : List Str := ["good", "start", "offer", "other", "house", "least", "most", "from", "turn", "rests", "none", "never", "may", "deal", "join"]
theorem kw_len : ∀ w ∈ KW, w.length ≤ 5 := by decide +kernel
theorem kw_q : ∀ w ∈ KW, hdC w ≠ some 113 := by decide +kernel
theorem inD_str (s : Str) : ∀ ws : List Str, inD (.str s) (ws.map .str) = decide (s ∈ ws)
  | [] => rfl
  | w :: ws => by
    have ih := inD_str s ws
    unfold inD at ih ⊢
    rw [List.map_cons, List.any_cons, ih]
    show ((w == s) || decide (s ∈ ws)) = _
    by_cases e : w = s
    · subst e; simp
    · have e2 : ¬ s = w := fun z => e z.symm
      simp [e, e2]
theorem fIn_strs (neg : Bool) (s : Str) (ws : List Str) {d : D} {st : Sto} (h : look d st = some (ws.map .str)) : fIn neg (.str s) d st = some (.bl (if neg then !decide (s ∈ ws) else decide (s ∈ ws)), st) := by
  unfold fIn
  rw [h, b_some, if_pos ⟨rfl, by rw [List.all_map]; exact List.all_eq_true.mpr fun _ _ => rfl⟩, inD_str]
theorem words_call (st : Sto) : m__law_words [] st = some (.lst (KW.map .str), st) := by
  unfold m__law_words ms__law_words_0
  walk_at "ev"
  rw [if_pos (szle (by decide))]
  walk_at "ev"
  rfl
theorem words_ex (s : Str) (st : Sto) (en : En) (he : en[5]? = some (some (.str s))) : (mTB (mOp (fIn false) (mV 5) (mCb m__law_words mNil))) en st = some (decide (s ∈ KW), st) := by
  unfold mTB mOp mCb mNil
  rw [mV_at he]
  show ((((m__law_words [] st).bind fun q => fIn false (.str s) q.1 q.2)).bind _) = _
  rw [words_call]
  show ((fIn false (.str s) (.lst (KW.map .str)) st).bind _) = _
  rw [fIn_strs false s KW (look_lst _ _)]
  rfl
/-- a name that is one -/
structure Vn (s : Str) : Prop where
  nm : Nm s
  fst : ∃ c, hdC s = some c ∧ c ∈ LT
  len : s.length ≤ 8
  kept : s ∉ KW
end K21


namespace K21
open PySem PySem.Spec PyProof.Rows L2 My
local macro_rules | `(tactic| walk_at "ev") => `(tactic| try simp only [mDef, mSeq, mAsg, mV_eq, mC, mOp, mUn, mCb, mNil, mCons, mTup, mIfS, mTB, mT, mRet, mNext, mgTup, mgCons, mgNil, mgT, mgName, setTg, setTgs, mIf, mAnd, mOr, mNot, mAndV, mOrV, mNotV, fB, fLt_int, fLe, fGt, fGe, fAdd_int, fSub_int, fMod_int, fDiv_int, fMul_int, fNeg_int, fIn_tup, fIn_lst, settle_same, fIx, look_tup, look_d, look_lst, look_fro, lookL_lst, atI_0, atI_1, atI_2, atI_3, fLen_tup, fLen_lst, miSeq, srcOf, mPar, mAug, mRetN, fTuple_lst, fTuple_tup, alloc_f, fEq_int, fMaxL_2, fMinL_2, fSorted_ints, fIsN_int, fIsN_non, fNe_int, mDrop, wipeE, mYes, My.isNon, miRng1, miRng2, fInt_int, truD, fShl_int, fPow_int, fAbs_int, fEq_bl, fIsi_tt, fIsi_it, fIsi_ii, fIsi_ib, fIsi_bt, fIsi_bi, fIsi_bb, fIsi_tb, fIsi_ti, last_concat, List.dropLast_concat, look_loc, lookL_loc, fLen_loc, ixN_0, ixN_1, ixN_2, ixN_3, fSetL_loc, fAppend_loc, fPop_loc, fExtend_loc, mgSub, mMt, alloc_t, mFrz, mSl, mRev, mNone, mSome, mLst, fNeg, fSet_tup, fSet_lst, fInS_int, fSortS_set, fAll_lst, fAdd_tup, fEq_str, fNe_str, fIsN_str, fIsN_bl, fIsN_tup, fIsN_lst, fIsi_si, fIsi_ss, fIsi_sb, fIsi_st, fIsi_ts, fIsB_non, fIsB_int, fIsB_str, fIsB_tup, fIsB_bl, fAdd_str, fTuple_loc, fLen_fro, mNotT, mCV, mBreak, mCont, z0, z1, z2, z3, z4, z5, z6, z7, z8, z9, List.lookup_cons,
  b_some, b_none, m_some, Option.join_some, List.getElem?_cons_zero, List.getElem?_cons_succ, List.set_cons_zero, List.set_cons_succ, List.map_cons, List.map_nil, List.length_cons, List.length_nil, List.replicate, List.cons_append, List.nil_append, Nat.reduceAdd, Nat.reduceSub, if_true, if_false, reduceIte, reduceCtorEq, ite_bind, Bool.false_eq_true, decide_eq_true_eq, List.length_map, decide_true, decide_false, Bool.not_true, Bool.not_false])
local macro_rules | `(tactic| walk_at "nx") => `(tactic| (refine (mSeq_nx (by (walk_at "ev"; rfl))).trans ?_))
abbrev sgs : D := .str "abcdefghijklmnopqrstuvwxyz0123456789"
theorem name_ex (ns : List Int) (hn : ns.length ≤ 63) {p i : Int} (hp : 0 ≤ p ∧ p < 90000) (hi : 0 ≤ i ∧ i < 36) (st : Sto) : ∃ s, Vn s ∧ lastC s = SG[i.toNat]? ∧ m__law_name [scr ns, .int p, .int i] st = some (.str s, st) := by
  let E : Option D → Option D → Option D → Option D → En := fun g z n k => [some (scr ns), some (.int p), some (.int i), g, z, n, k]
  obtain ⟨ci, hci, hci2, hci3⟩ := sign_at hi
  obtain ⟨size, z1, z2, z3⟩ := draw_ex ns hn (p := p) (m := 9) (by omega) (by omega)
  have a1 : (mAsg (mC (.str "abcdefghijklmnopqrstuvwxyz0123456789")) (mgName 3)) (E none none none none) st = some (.nx (E (some sgs) none none none), st) := by
    dsimp only [E]; walk_at "ev"
  have a2 : ms__law_name_6 (E (some sgs) none none none) st = some (.nx (E (some sgs) (some (.int size)) none none), st) := by
    unfold ms__law_name_6
    dsimp only [E]; walk_at "ev"
    rw [z3]
    walk_at "ev"
  have a3 : (mAsg (mOp fIxA (mV 3) (mV 2)) (mgName 5)) (E (some sgs) (some (.int size)) none none) st = some (.nx (E (some sgs) (some (.int size)) (some (.str ⟨#[ci]⟩)) none), st) := by
    dsimp only [E, mAsg, mOp]
    rw [mV_at (i := 3) rfl, b_some, mV_at (i := 2) rfl, b_some]
    dsimp only
    rw [hci3]
    rfl
  obtain ⟨s, w, s1, sf, s2, s3, a4⟩ : ∃ (s : Str) (w : Option D), Nm s ∧ (∃ c, hdC s = some c ∧ c ∈ LT) ∧ lastC s = some ci ∧ s.length ≤ 8 ∧ ms__law_name_8 (E (some sgs) (some (.int size)) (some (.str ⟨#[ci]⟩)) none) st = some (.nx (E (some sgs) (some (.int size)) (some (.str s)) w), st) := by
    by_cases hb : 1 < size ∨ 25 < i
    · obtain ⟨j, j1, j2, j3⟩ := draw_ex ns hn (p := p + 1) (m := 26) (by omega) (by omega)
      obtain ⟨cj, hcj, hcj2, hcj3⟩ := sign_at (i := j) (by omega)
      have b1 : ms__law_name_2 (E (some sgs) (some (.int size)) (some (.str ⟨#[ci]⟩)) none) st = some (.nx (E (some sgs) (some (.int size)) (some (.str ⟨#[cj]⟩)) none), st) := by
        unfold ms__law_name_2
        dsimp only [E]; walk_at "ev"
        rw [j3]
        walk_at "ev"
        rw [hcj3]
        walk_at "ev"
      have hm : miRng1 (mCons (mOp fSub (mV 4) (mC (.int 2))) mNil) (E (some sgs) (some (.int size)) (some (.str ⟨#[cj]⟩)) none) st = some (⟨rngD 0 (size - 2).toNat, none⟩, st) := by
        dsimp only [E]; walk_at "ev"
        rw [if_pos (small_ok (by omega))]
      obtain ⟨o, st', b2, b3⟩ := for_inv (mi := miRng1 (mCons (mOp fSub (mV 4) (mC (.int 2))) mNil)) (T := .name 6) (b := ms__law_name_0) hm
        (fun k en s => s = st ∧ ∃ (t : Str) (w : Option D), Nm t ∧ hdC t = some cj ∧ t.length ≤ k + 1 ∧ en = E (some sgs) (some (.int size)) (some (.str t)) w) (fun _ _ => False) (fun _ _ => False) (fun _ _ _ _ => ok_none)
        ⟨rfl, ⟨#[cj]⟩, none, Nm.one hcj, rfl, by rw [len_cps, one_cps]; simp, rfl⟩ (by
        rintro k d en s hd ⟨rfl, t, w, t1, tf, t2, rfl⟩
        obtain ⟨rfl, hk⟩ := rng_get hd
        obtain ⟨v, v1, v2, v3⟩ := draw_ex ns hn (p := p + 2 + (0 + (k : Int))) (m := 36) (by omega) (by omega)
        obtain ⟨cv, hcv, hcv2, hcv3⟩ := sign_at (i := v) (by omega)
        refine ⟨E (some sgs) (some (.int size)) (some (.str t)) (some (.int (0 + (k : Int)))), .nx (E (some sgs) (some (.int size)) (some (.str (t ++ ⟨#[cv]⟩))) (some (.int (0 + (k : Int))))), s, rfl, ?_, rfl, t ++ ⟨#[cv]⟩, _, t1.app (Nm.one hcv), (hd_app _ _ t1.ne).trans tf, ?_, rfl⟩
        · unfold ms__law_name_0
          dsimp only [E]
          walk_at "ev"
          rw [v3]
          walk_at "ev"
          rw [hcv3]
          walk_at "ev"
          rw [if_pos (szle (by rw [len_cps ⟨#[cv]⟩, one_cps]; simp only [List.length_cons, List.length_nil]; omega))]
          walk_at "ev"
        · rw [len_cps, app_cps, List.length_append, one_cps, ← len_cps]
          simp only [List.length_cons, List.length_nil]
          omega)
      cases o with
      | nx e =>
        rcases b3 with ⟨rfl, t, w, t1, tf, t2, rfl⟩ | f
        · refine ⟨t ++ ⟨#[ci]⟩, w, t1.app (Nm.one hci), ⟨cj, (hd_app _ _ t1.ne).trans tf, lt_at (by omega) hcj2⟩, last_app t ci, ?_, ?_⟩
          · rw [len_cps, app_cps, List.length_append, one_cps, ← len_cps]
            have : (rngD 0 (size - 2).toNat).length = (size - 2).toNat := by simp [rngD]
            dsimp only at t2
            simp only [List.length_cons, List.length_nil]
            omega
          · unfold ms__law_name_8
            refine (mIfS_t (st1 := st') ?_).trans ((mSeq_nx b1).trans ((mSeq_nx (by unfold ms__law_name_4; exact b2)).trans ?_))
            · dsimp only [E]; walk_at "ev"
              by_cases h1 : 1 < size
              · simp [h1]
              · have h2 : 25 < i := hb.resolve_left h1
                simp [h1, h2]
            · dsimp only [E]; walk_at "ev"
              rw [hci3]
              walk_at "ev"
              rw [if_pos (szle (by
                have : (rngD 0 (size - 2).toNat).length = (size - 2).toNat := by simp [rngD]
                dsimp only at t2
                rw [len_cps ⟨#[ci]⟩, one_cps]
                simp only [List.length_cons, List.length_nil]
                omega))]
              walk_at "ev"
        · exact f.elim
      | rt d => exact b3.elim
      | bk e => exact b3.elim
      | ct e => exact b3.elim
    · refine ⟨⟨#[ci]⟩, none, Nm.one hci, ⟨ci, rfl, lt_at (i := i.toNat) (by
        have h2 : ¬ 25 < i := fun z => hb (.inr z)
        omega) hci2⟩, rfl, by rw [len_cps, one_cps]; simp, ?_⟩
      unfold ms__law_name_8
      refine (mIfS_f (st1 := st) ?_).trans ?_
      · have h1 : ¬ 1 < size := fun z => hb (.inl z)
        have h2 : ¬ 25 < i := fun z => hb (.inr z)
        dsimp only [E]; walk_at "ev"
        simp [h1, h2]
      · dsimp only [E]; walk_at "ev"
  have hw1 := words_ex s st (E (some sgs) (some (.int size)) (some (.str s)) w) rfl
  by_cases hk : s ∈ KW
  rotate_left
  · rw [decide_eq_false hk] at hw1
    refine ⟨s, ⟨s1, sf, s3, hk⟩, s2.trans hci2.symm, mDef_rt rfl ((mSeq_nx a1).trans ((mSeq_nx a2).trans ((mSeq_nx a3).trans ((mSeq_nx a4).trans ((mSeq_nx (en' := E (some sgs) (some (.int size)) (some (.str s)) w) (st' := st) ?_).trans ?_)))))⟩
    · unfold ms__law_name_10
      exact (mIfS_f hw1).trans rfl
    · dsimp only [E]; walk_at "ev"
  · rw [decide_eq_true hk] at hw1
    have lq : ("q" : Str).cps.toList = [113] := by rw [sg_q]
    have hq : hdC (("q" : Str) ++ s) = some 113 := (hd_app _ _ (by rw [lq]; simp)).trans (by unfold hdC; rw [lq]; rfl)
    have nq : Nm (("q" : Str) ++ s) := Nm.app (by rw [sg_q]; exact Nm.one (by decide)) s1
    refine ⟨("q" : Str) ++ s, ⟨nq, ⟨113, hq, by decide⟩, ?_, fun z => kw_q _ z hq⟩, ?_, mDef_rt rfl ((mSeq_nx a1).trans ((mSeq_nx a2).trans ((mSeq_nx a3).trans ((mSeq_nx a4).trans ((mSeq_nx (en' := E (some sgs) (some (.int size)) (some (.str (("q" : Str) ++ s))) w) (st' := st) ?_).trans ?_)))))⟩
    · have := kw_len _ hk
      rw [len_cps, app_cps, lq, List.length_append, ← len_cps]
      simp only [List.length_cons, List.length_nil]
      omega
    · rw [last_pre _ _ s1.ne, s2, hci2]
    · unfold ms__law_name_10
      refine (mIfS_t hw1).trans ?_
      dsimp only [E]; walk_at "ev"
      rw [if_pos (szle (by rw [sg_q, len_cps ⟨#[113]⟩, one_cps]; simp only [List.length_cons, List.length_nil]; omega))]
      walk_at "ev"
    · dsimp only [E]; walk_at "ev"
end K21


namespace K21
open PySem PySem.Spec PyProof.Rows L2 My
local macro_rules | `(tactic| walk_at "ev") => `(tactic| try simp only [mDef, mSeq, mAsg, mV_eq, mC, mOp, mUn, mCb, mNil, mCons, mTup, mIfS, mTB, mT, mRet, mNext, mgTup, mgCons, mgNil, mgT, mgName, setTg, setTgs, mIf, mAnd, mOr, mNot, mAndV, mOrV, mNotV, fB, fLt_int, fLe, fGt, fGe, fAdd_int, fSub_int, fMod_int, fDiv_int, fMul_int, fNeg_int, fIn_tup, fIn_lst, settle_same, fIx, look_tup, look_d, look_lst, look_fro, lookL_lst, atI_0, atI_1, atI_2, atI_3, fLen_tup, fLen_lst, miSeq, srcOf, mPar, mAug, mRetN, fTuple_lst, fTuple_tup, alloc_f, fEq_int, fMaxL_2, fMinL_2, fSorted_ints, fIsN_int, fIsN_non, fNe_int, mDrop, wipeE, mYes, My.isNon, miRng1, miRng2, fInt_int, truD, fShl_int, fPow_int, fAbs_int, fEq_bl, fIsi_tt, fIsi_it, fIsi_ii, fIsi_ib, fIsi_bt, fIsi_bi, fIsi_bb, fIsi_tb, fIsi_ti, last_concat, List.dropLast_concat, look_loc, lookL_loc, fLen_loc, ixN_0, ixN_1, ixN_2, ixN_3, fSetL_loc, fAppend_loc, fPop_loc, fExtend_loc, mgSub, mMt, alloc_t, mFrz, mSl, mRev, mNone, mSome, mLst, fNeg, fSet_tup, fSet_lst, fInS_int, fSortS_set, fAll_lst, fAdd_tup, fEq_str, fNe_str, fIsN_str, fIsN_bl, fIsN_tup, fIsN_lst, fIsi_si, fIsi_ss, fIsi_sb, fIsi_st, fIsi_ts, fIsB_non, fIsB_int, fIsB_str, fIsB_tup, fIsB_bl, fAdd_str, fTuple_loc, fLen_fro, mNotT, mCV, mBreak, mCont, z0, z1, z2, z3, z4, z5, z6, z7, z8, z9, List.lookup_cons,
  b_some, b_none, m_some, Option.join_some, List.getElem?_cons_zero, List.getElem?_cons_succ, List.set_cons_zero, List.set_cons_succ, List.map_cons, List.map_nil, List.length_cons, List.length_nil, List.replicate, List.cons_append, List.nil_append, Nat.reduceAdd, Nat.reduceSub, if_true, if_false, reduceIte, reduceCtorEq, ite_bind, Bool.false_eq_true, decide_eq_true_eq, List.length_map, decide_true, decide_false, Bool.not_true, Bool.not_false])
local macro_rules | `(tactic| walk_at "nx") => `(tactic| (refine (mSeq_nx (by (walk_at "ev"; rfl))).trans ?_))
def tl12 : List Int := [1, 5, 7, 11, 13, 17, 19, 23, 25, 29, 31, 35]
theorem sg_inj {i j : Nat} (hi : i < 36) (hj : j < 36) (e : SG[i]? = SG[j]?) : i = j := by
  have hl : SG.length = 36 := rfl
  have h1 : i < SG.length := by omega
  have h2 : j < SG.length := by omega
  rw [List.getElem?_eq_getElem h1, List.getElem?_eq_getElem h2] at e
  exact (List.getElem_inj sg_nd).mp (Option.some.inj e)
theorem turn_inj {t f a b : Int} (ht : t ∈ tl12) (ha : 0 ≤ a ∧ a < 36) (hb : 0 ≤ b ∧ b < 36) (e : (f + t * a) % 36 = (f + t * b) % 36) : a = b := by
  unfold tl12 at ht
  simp only [List.mem_cons, List.not_mem_nil, or_false] at ht
  rcases ht with h | h | h | h | h | h | h | h | h | h | h | h <;> (subst h; omega)
theorem names_ex (ns : List Int) (hn : ns.length ≤ 63) {p many : Int} (hp : 0 ≤ p ∧ p < 80000) (hm : 0 ≤ many ∧ many ≤ 36) (st : Sto) : ∃ l : List Str, l.length = many.toNat ∧ l.Nodup ∧ (∀ s ∈ l, Vn s) ∧ m__law_names [scr ns, .int p, .int many] st = some (.lst (l.map .str), st) := by
  let E : Option D → Option D → Option D → En := fun t f k => [some (scr ns), some (.int p), some (.int many), t, f, k]
  obtain ⟨v, v1, v2, v3⟩ := draw_ex ns hn (p := p) (m := 12) (by omega) (by omega)
  obtain ⟨first, f1, f2, f3⟩ := draw_ex ns hn (p := p + 1) (m := 36) (by omega) (by omega)
  obtain ⟨t, ht, htm⟩ := atI_mem (xs := tl12) (i := v) v1 (by show v < ((12 : Nat) : Int); omega)
  have et : atI [D.int 1, .int 5, .int 7, .int 11, .int 13, .int 17, .int 19, .int 23, .int 25, .int 29, .int 31, .int 35] v = some (.int t) := (atI_map D.int tl12 v).trans (by rw [ht]; rfl)
  have htb : 0 ≤ t ∧ t ≤ 35 := by
    unfold tl12 at htm
    simp only [List.mem_cons, List.not_mem_nil, or_false] at htm
    omega
  have a1 : ms__law_names_0 (E none none none) st = some (.nx (E (some (.int t)) none none), st) := by
    unfold ms__law_names_0
    dsimp only [E]; walk_at "ev"
    rw [if_pos (szle (by decide))]
    walk_at "ev"
    rw [v3]
    walk_at "ev"
    rw [et]
    walk_at "ev"
  have a2 : ms__law_names_2 (E (some (.int t)) none none) st = some (.nx (E (some (.int t)) (some (.int first)) none), st) := by
    unfold ms__law_names_2
    dsimp only [E]; walk_at "ev"
    rw [f3]
    walk_at "ev"
  have hx : ∀ k : Int, ∃ s, 0 ≤ k → k < many → Vn s ∧ lastC s = SG[((first + t * k) % 36).toNat]? ∧ m__law_name [scr ns, .int (p + 2 + 11 * k), .int ((first + t * k) % 36)] st = some (.str s, st) := by
    intro k
    by_cases hk : 0 ≤ k ∧ k < many
    · obtain ⟨s, h⟩ := name_ex ns hn (p := p + 2 + 11 * k) (i := (first + t * k) % 36) (by omega) (by omega) st
      exact ⟨s, fun _ _ => h⟩
    · exact ⟨("" : Str), fun h1 h2 => absurd ⟨h1, h2⟩ hk⟩
  obtain ⟨f, hf⟩ := Classical.axiomOfChoice hx
  have hmi : miRng1 (mCons (mV 2) mNil) (E (some (.int t)) (some (.int first)) none) st = some (⟨(rngI 0 many.toNat).map D.int, none⟩, st) := by
    dsimp only [E]; walk_at "ev"
    rw [if_pos (small_ok (by omega)), rngD_eq]
  have lc := lc_ints (mu := false) (T := .name 5) (tt := mYes) (te := mCb m__law_name (mCons (mV 0) (mCons (mOp (fAdd false) (mOp (fAdd false) (mV 1) (mC (.int 2))) (mOp (fMul false) (mC (.int 11)) (mV 5))) (mCons (mOp fMod (mOp (fAdd false) (mV 4) (mOp (fMul false) (mV 3) (mV 5))) (mC (.int 36))) mNil)))) (vs := [5]) hmi (fun _ => true) (fun k => .str (f k)) (szlt (by rw [length_rngI]; omega)) (by
    intro k hk
    have hk := mem_rngI.mp hk
    refine ⟨E (some (.int t)) (some (.int first)) (some (.int k)), rfl, rfl, fun _ => ?_⟩
    dsimp only [E]; walk_at "ev"
    rw [cMul_l (by omega), cMul_l (i := t) (by omega)]
    walk_at "ev"
    rw [cMod_ok (by omega)]
    walk_at "ev"
    exact (hf k (by omega) (by omega)).2.2)
  have inj : ((rngI 0 many.toNat).map f).Nodup := by
    refine List.pairwise_map.mpr (List.Pairwise.imp_of_mem (fun {a b} ha hb hab e => ?_) (rngI_lt 0 many.toNat))
    have ha := mem_rngI.mp ha
    have hb := mem_rngI.mp hb
    have e1 := (hf a (by omega) (by omega)).2.1
    have e2 := (hf b (by omega) (by omega)).2.1
    rw [e, e2] at e1
    have e3 := sg_inj (by omega) (by omega) e1
    have e4 := turn_inj (a := a) (b := b) (f := first) htm (by omega) (by omega) (by omega)
    omega
  refine ⟨(rngI 0 many.toNat).map f, by rw [List.length_map, length_rngI], inj, fun s hs => ?_, mDef_rt rfl ((mSeq_nx a1).trans ((mSeq_nx a2).trans ?_))⟩
  · obtain ⟨k, hk, rfl⟩ := List.mem_map.mp hs
    have hk := mem_rngI.mp hk
    exact (hf k (by omega) (by omega)).1
  · unfold ms__law_names_4 mRet
    rw [lc, b_some, List.filter_eq_self.mpr fun _ _ => rfl, List.map_map]
    rfl
end K21


namespace K21
open PySem PySem.Spec PyProof.Rows L2 My
local macro_rules | `(tactic| walk_at "ev") => `(tactic| try simp only [mDef, mSeq, mAsg, mV_eq, mC, mOp, mUn, mCb, mNil, mCons, mTup, mIfS, mTB, mT, mRet, mNext, mgTup, mgCons, mgNil, mgT, mgName, setTg, setTgs, mIf, mAnd, mOr, mNot, mAndV, mOrV, mNotV, fB, fLt_int, fLe, fGt, fGe, fAdd_int, fSub_int, fMod_int, fDiv_int, fMul_int, fNeg_int, fIn_tup, fIn_lst, settle_same, fIx, look_tup, look_d, look_lst, look_fro, lookL_lst, atI_0, atI_1, atI_2, atI_3, fLen_tup, fLen_lst, miSeq, srcOf, mPar, mAug, mRetN, fTuple_lst, fTuple_tup, alloc_f, fEq_int, fMaxL_2, fMinL_2, fSorted_ints, fIsN_int, fIsN_non, fNe_int, mDrop, wipeE, mYes, My.isNon, miRng1, miRng2, fInt_int, truD, fShl_int, fPow_int, fAbs_int, fEq_bl, fIsi_tt, fIsi_it, fIsi_ii, fIsi_ib, fIsi_bt, fIsi_bi, fIsi_bb, fIsi_tb, fIsi_ti, last_concat, List.dropLast_concat, look_loc, lookL_loc, fLen_loc, ixN_0, ixN_1, ixN_2, ixN_3, fSetL_loc, fAppend_loc, fPop_loc, fExtend_loc, mgSub, mMt, alloc_t, mFrz, mSl, mRev, mNone, mSome, mLst, fNeg, fSet_tup, fSet_lst, fInS_int, fSortS_set, fAll_lst, fAdd_tup, fEq_str, fNe_str, fIsN_str, fIsN_bl, fIsN_tup, fIsN_lst, fIsi_si, fIsi_ss, fIsi_sb, fIsi_st, fIsi_ts, fIsB_non, fIsB_int, fIsB_str, fIsB_tup, fIsB_bl, fAdd_str, fTuple_loc, fLen_fro, mNotT, mCV, mBreak, mCont, z0, z1, z2, z3, z4, z5, z6, z7, z8, z9, List.lookup_cons,
  b_some, b_none, m_some, Option.join_some, List.getElem?_cons_zero, List.getElem?_cons_succ, List.set_cons_zero, List.set_cons_succ, List.map_cons, List.map_nil, List.length_cons, List.length_nil, List.replicate, List.cons_append, List.nil_append, Nat.reduceAdd, Nat.reduceSub, if_true, if_false, reduceIte, reduceCtorEq, ite_bind, Bool.false_eq_true, decide_eq_true_eq, List.length_map, decide_true, decide_false, Bool.not_true, Bool.not_false])
local macro_rules | `(tactic| walk_at "nx") => `(tactic| (refine (mSeq_nx (by (walk_at "ev"; rfl))).trans ?_))
structure Rw where
  n : Str
  g : Str
  m : Int
def Rw.d (r : Rw) : D := .tup [.str r.n, .str r.g, .int r.m]
abbrev hd (g : Str) (m : Int) : D := .tup [.str g, .int m]
theorem pick (l : List Int) {v : Int} (h0 : 0 ≤ v) (h : v < l.length) : ∃ x, x ∈ l ∧ atI (l.map D.int) v = some (.int x) := by
  obtain ⟨x, h1, h2⟩ := atI_mem (xs := l) h0 h
  exact ⟨x, h2, by rw [atI_map, h1]; rfl⟩
theorem pickS (l : List Str) {v : Int} (h0 : 0 ≤ v) (h : v < l.length) : ∃ x, x ∈ l ∧ atI (l.map D.str) v = some (.str x) := by
  obtain ⟨x, h1, h2⟩ := atI_mem (xs := l) h0 h
  exact ⟨x, h2, by rw [atI_map, h1]; rfl⟩
theorem look_top (st : Sto) (es : List D) : lookL (.loc st.length) (st ++ [.lst es]) = some es := by
  rw [lookL_loc, top_get]
theorem lookA_top (st : Sto) (es : List D) : look (.loc st.length) (st ++ [.lst es]) = some es := by
  rw [look_loc, top_get]
theorem app_top {mo : ME} {ma : MA} {en : En} {st : Sto} {es : List D} {d : D} (ho : mo en (st ++ [.lst es]) = some (.loc st.length, st ++ [.lst es])) (ha : ma en (st ++ [.lst es]) = some ([d], st ++ [.lst es])) (hl : es.length < 10000000) : mDrop (mMt fAppend mo ma) en (st ++ [.lst es]) = some (.nx en, st ++ [.lst (es ++ [d])]) := by
  unfold mDrop mMt
  rw [ho, b_some]
  dsimp only
  rw [look_top, b_some, ha, b_some]
  dsimp only
  rw [fAppend_loc, top_get]
  dsimp only
  rw [if_pos (szlt hl), top_set]
  rfl
theorem ext_top {mo : ME} {ma : MA} {en : En} {st : Sto} {es fs : List D} (ho : mo en (st ++ [.lst es]) = some (.loc st.length, st ++ [.lst es])) (ha : ma en (st ++ [.lst es]) = some ([.lst fs], st ++ [.lst es])) (hl : es.length + fs.length < 10000000) : mDrop (mMt fExtend mo ma) en (st ++ [.lst es]) = some (.nx en, st ++ [.lst (es ++ fs)]) := by
  unfold mDrop mMt
  rw [ho, b_some]
  dsimp only
  rw [look_top, b_some, ha, b_some]
  dsimp only
  rw [fExtend_loc, top_get]
  dsimp only
  rw [lookL_lst, b_some, if_pos (szle hl), top_set]
  rfl
theorem enum_get {xs : List D} {i : Nat} {d : D} (h : (enumD xs)[i]? = some d) : ∃ x, xs[i]? = some x ∧ d = .tup [.int i, x] := by
  unfold enumD at h
  rw [List.getElem?_map, List.getElem?_zipIdx, Option.map_map] at h
  obtain ⟨x, hx, rfl⟩ := Option.map_eq_some_iff.mp h
  refine ⟨x, hx, ?_⟩
  simp
abbrev hdd (h : Str × Int) : D := hd h.1 h.2
theorem nm_lay {s : Str} (h : Nm s) : (encD (.str s)).canLay0 = true := by
  show (PyData.str s).canLay0 = true
  rw [PyData.canLay0]
  unfold PyData.strOk
  rw [← Array.all_toList, List.all_eq_true]
  intro c hc
  have m := h.sg c hc
  have : ∀ c ∈ SG, c < 0x110000 := by decide +kernel
  exact decide_eq_true (this c m)
theorem hdd_lay {h : Str × Int} (n : Nm h.1) : (encD (hdd h)).canLay0 = true ∧ (encD (hdd h)).depth ≤ 60 := by
  have e := nm_lay n
  have e : (PyData.str h.1).canLay0 = true := e
  constructor
  · show (PyData.tuple [.str h.1, .int h.2]).canLay0 = true
    rw [PyData.canLay0, PyData.canLayAll0, PyData.canLayAll0, PyData.canLayAll0, e, PyData.canLay0]
    rfl
  · show (PyData.tuple [.str h.1, .int h.2]).depth ≤ 60
    simp [PyData.depth, PyData.depthAll]
theorem srt_hdd : Srt hdd := ⟨fun _ => rfl, fun _ _ => rfl, .inl fun _ => rfl, fun x => by
  show (PyData.tuple [.str x.1, .int x.2]).depth ≤ 60
  simp [PyData.depth, PyData.depthAll], fun x i h => by cases h⟩
theorem frz_top {m : ME} {en : En} {st : Sto} {es : List D} (h : m en (st ++ [.lst es]) = some (.loc st.length, st ++ [.lst es])) : mFrz m en (st ++ [.lst es]) = some (.lst es, st ++ [.dead]) := by
  unfold mFrz
  rw [h, b_some]
  dsimp only
  rw [top_get]
  dsimp only
  rw [top_set]
theorem fLen_top (st : Sto) (es : List D) : fLen [.loc st.length] (st ++ [.lst es]) = some (.int es.length, st ++ [.lst es]) := by
  rw [fLen_loc, lookA_top]
  rfl
theorem srt_row : Srt Rw.d := ⟨fun _ => rfl, fun _ _ => rfl, .inl fun _ => rfl, fun x => by
  show (PyData.tuple [.str x.n, .str x.g, .int x.m]).depth ≤ 60
  simp [PyData.depth, PyData.depthAll], fun x i h => by cases h⟩
theorem clo_row (n : Nat) (r : Rw) : clo n r.d = true := rfl
theorem clos_strs (n : Nat) (l : List Str) : clos n (l.map .str) = true := clos_map n _ (fun _ => rfl) l
theorem clo_hdd (n : Nat) (h : Str × Int) : clo n (hdd h) = true := rfl
abbrev nmR (n : Str) : Rw → Bool := fun r => decide (r.n = n)
def hdO : Option Rw → D
  | none => .non
  | some r => hd r.g r.m
theorem found_eq (rows : List Rw) (n : Str) (st : Sto) : m_found_holding [.tup (rows.map Rw.d), .str n] st = some (hdO (rows.find? (nmR n)), st) := by
  have hm : miSeq (mV 0) [some (.tup (rows.map Rw.d)), some (.str n), none, none, none] st = some (⟨rows.map Rw.d, none⟩, st) := by
    walk_at "ev"
  rcases find_A (T := .tup [(.name 2), (.name 3), (.name 4)]) (b := mIfS (mTB (mOp fEq (mV 2) (mV 1))) (mRet (mTup (mCons (mV 3) (mCons (mV 4) mNil)))) mNext) hm (nmR n) (fun r => hd r.g r.m)
    (fun en => ∃ a b c, en = [some (.tup (rows.map Rw.d)), some (.str n), a, b, c]) ⟨_, _, _, rfl⟩ (by
    rintro r _ en ⟨a, b, c, rfl⟩
    refine ⟨_, rfl, fun h => ?_, fun h => ⟨[some (.tup (rows.map Rw.d)), some (.str n), some (.str r.n), some (.str r.g), some (.int r.m)], ?_, _, _, _, rfl⟩⟩
    · refine (mIfS_t (st1 := st) ?_).trans ?_
      · walk_at "ev"
        rw [show decide (r.n = n) = true from h]
      · walk_at "ev"
    · refine (mIfS_f (st1 := st) ?_).trans rfl
      walk_at "ev"
      rw [show decide (r.n = n) = false from h]) with ⟨en2, h1, h2, a, b, c, rfl⟩ | ⟨r, h1, h2⟩
  · rw [h1]
    refine mDef_rt rfl ((mSeq_nx (by unfold ms_found_holding_0; exact h2)).trans ?_)
    walk_at "ev"
    rfl
  · rw [h1]
    exact mDef_rt rfl (mSeq_rt (by unfold ms_found_holding_0; exact h2))
theorem find_uniq {rows : List Rw} (nd : (rows.map (·.n)).Nodup) {r : Rw} (hr : r ∈ rows) {n : Str} (e : r.n = n) : rows.find? (nmR n) = some r := by
  induction rows with
  | nil => cases hr
  | cons x rows ih =>
    rw [List.map_cons, List.nodup_cons] at nd
    by_cases h : x.n = n
    · rw [List.find?_cons_of_pos (by exact decide_eq_true h)]
      rcases List.mem_cons.mp hr with z | z
      · rw [z]
      · exact absurd (List.mem_map.mpr ⟨r, z, e.trans h.symm⟩) nd.1
    · rw [List.find?_cons_of_neg (by simp [nmR, h])]
      rcases List.mem_cons.mp hr with z | z
      · exact absurd (by rw [← z]; exact e) h
      · exact ih nd.2 z
theorem cons1 {m : ME} {en : En} {st st' : Sto} {d : D} (h : m en st = some (d, st')) : mCons m mNil en st = some ([d], st') := by
  unfold mCons mNil
  rw [h]
  rfl
inductive Ps : Nat → D → Prop where
  | non (n : Nat) : Ps n .non
  | int (n : Nat) (i : Int) : Ps n (.int i)
  | str (n : Nat) (s : Str) : Ps n (.str s)
  | tup (n : Nat) (ds : List D) (h : ∀ d ∈ ds, Ps n d) : Ps (n + 1) (.tup ds)
theorem zip_self (ds : List D) : zipD ds ds = ds.map fun d => .tup [d, d] := by
  unfold zipD
  induction ds with
  | nil => rfl
  | cons d ds ih => rw [List.zip_cons_cons, List.map_cons, List.map_cons, ih]
theorem same_refl : ∀ (m n : Nat) (d : D), Ps n d → n < m → ∀ st, m__law_same m [d, d] st = some (.bl true, st)
  | 0, n, d, _, h, _ => absurd h (Nat.not_lt_zero n)
  | m + 1, n, d, hd, h, st => by
    show mDef 4 2 (mb__law_same (m__law_same m)) [d, d] st = _
    refine mDef_rt rfl ?_
    cases hd with
    | non n =>
      unfold mb__law_same
      refine mSeq_rt ?_
      walk_at "ev"
    | int n i =>
      unfold mb__law_same
      refine (mSeq_nx (en' := [some (.int i), some (.int i), none, none]) (st' := st) ?_).trans ((mSeq_nx (en' := [some (.int i), some (.int i), none, none]) (st' := st) ?_).trans ((mSeq_nx (en' := [some (.int i), some (.int i), none, none]) (st' := st) ?_).trans (mSeq_rt ?_)))
      · walk_at "ev"
      · walk_at "ev"
      · walk_at "ev"
      · unfold ms__law_same_6 ms__law_same_0
        walk_at "ev"
    | str n s =>
      unfold mb__law_same
      refine (mSeq_nx (en' := [some (.str s), some (.str s), none, none]) (st' := st) ?_).trans ((mSeq_nx (en' := [some (.str s), some (.str s), none, none]) (st' := st) ?_).trans ((mSeq_nx (en' := [some (.str s), some (.str s), none, none]) (st' := st) ?_).trans ((mSeq_nx (en' := [some (.str s), some (.str s), none, none]) (st' := st) ?_).trans (mSeq_rt ?_))))
      · walk_at "ev"
      · walk_at "ev"
      · walk_at "ev"
      · unfold ms__law_same_6
        walk_at "ev"
      · unfold ms__law_same_8 ms__law_same_2
        walk_at "ev"
    | tup n ds hds =>
      let E : Option D → Option D → En := fun a b => [some (.tup ds), some (.tup ds), a, b]
      unfold mb__law_same
      refine (mSeq_nx (en' := E none none) (st' := st) ?_).trans ((mSeq_nx (en' := E none none) (st' := st) ?_).trans ((mSeq_nx (en' := E none none) (st' := st) ?_).trans ((mSeq_nx (en' := E none none) (st' := st) ?_).trans ((mSeq_nx (en' := E none none) (st' := st) ?_).trans ((mSeq_nx (en' := E none none) (st' := st) ?_).trans ?_)))))
      · dsimp only [E]; walk_at "ev"
      · dsimp only [E]; walk_at "ev"
      · dsimp only [E]; walk_at "ev"
      · unfold ms__law_same_6
        dsimp only [E]; walk_at "ev"
      · unfold ms__law_same_8
        dsimp only [E]; walk_at "ev"
      · unfold ms__law_same_10
        dsimp only [E]; walk_at "ev"
      · have hm : miZip (mCons (mV 0) (mCons (mV 1) mNil)) (E none none) st = some (⟨ds.map fun d => .tup [d, d], none⟩, st) := by
          unfold miZip
          dsimp only [E]; walk_at "ev"
          rw [zip_self]
        obtain ⟨en2, st2, b1, rfl, a, b, rfl⟩ := fold_A (T := .tup [(.name 2), (.name 3)]) (b := ms__law_same_4 (m__law_same m)) hm (fun (a : Unit) _ => a)
          (fun _ en s => s = st ∧ ∃ a b, en = E a b) () ⟨rfl, _, _, rfl⟩ (by
          rintro d hd _ en s ⟨rfl, a, b, rfl⟩
          refine ⟨_, E (some d) (some d), s, rfl, ?_, rfl, _, _, rfl⟩
          unfold ms__law_same_4
          have ih := same_refl m n d (hds d hd) (by omega) s
          refine (mIfS_f (en := E (some d) (some d)) (st1 := s) ?_).trans rfl
          dsimp only [E]; walk_at "ev"
          rw [ih]
          walk_at "ev")
        refine (mSeq_nx (by unfold ms__law_same_12; exact b1)).trans ?_
        dsimp only [E]; walk_at "ev"
theorem Ps.row (r : Rw) : Ps 1 r.d := .tup 0 _ fun d hd => by
  simp only [List.mem_cons, List.not_mem_nil, or_false] at hd
  rcases hd with rfl | rfl | rfl
  · exact .str 0 _
  · exact .str 0 _
  · exact .int 0 _
theorem Ps.rows (l : List Rw) : Ps 2 (.tup (l.map Rw.d)) := .tup 1 _ fun d hd => by
  obtain ⟨r, _, rfl⟩ := List.mem_map.mp hd
  exact .row r
theorem same_val {X Y : ME} {en : En} {st : Sto} {d : D} {n : Nat} (hX : X en st = some (d, st)) (hY : Y en st = some (d, st)) (hd : Ps n d) (hn : n < 5) : (mCb (m__law_same 5) (mCons X (mCons Y mNil))) en st = some (.bl true, st) := by
  walk_at "ev"
  rw [hX]
  walk_at "ev"
  rw [hY]
  walk_at "ev"
  exact same_refl 5 n d hd hn st
theorem same_not {X Y : ME} {en : En} {st : Sto} {d : D} {n : Nat} (hX : X en st = some (d, st)) (hY : Y en st = some (d, st)) (hd : Ps n d) (hn : n < 5) : (mNot (mT (mCb (m__law_same 5) (mCons X (mCons Y mNil))))) en st = some (false, st) := by
  have h := same_val hX hY hd hn
  generalize mCb (m__law_same 5) (mCons X (mCons Y mNil)) = m at h
  walk_at "ev"
  rw [h]
  walk_at "ev"
theorem same_pass {X Y : ME} {A : MS} {en : En} {st : Sto} {d : D} {n : Nat} (hX : X en st = some (d, st)) (hY : Y en st = some (d, st)) (hd : Ps n d) (hn : n < 5) : (mIfS (mNot (mT (mCb (m__law_same 5) (mCons X (mCons Y mNil))))) A mNext) en st = some (.nx en, st) := (mIfS_f (same_not hX hY hd hn)).trans rfl

end K21


namespace K21
open PySem PySem.Spec PyProof.Rows L2 My
local macro_rules | `(tactic| walk_at "ev") => `(tactic| try simp only [mDef, mSeq, mAsg, mV_eq, mC, mOp, mUn, mCb, mNil, mCons, mTup, mIfS, mTB, mT, mRet, mNext, mgTup, mgCons, mgNil, mgT, mgName, setTg, setTgs, mIf, mAnd, mOr, mNot, mAndV, mOrV, mNotV, fB, fLt_int, fLe, fGt, fGe, fAdd_int, fSub_int, fMod_int, fDiv_int, fMul_int, fNeg_int, fIn_tup, fIn_lst, settle_same, fIx, look_tup, look_d, look_lst, look_fro, lookL_lst, atI_0, atI_1, atI_2, atI_3, fLen_tup, fLen_lst, miSeq, srcOf, mPar, mAug, mRetN, fTuple_lst, fTuple_tup, alloc_f, fEq_int, fMaxL_2, fMinL_2, fSorted_ints, fIsN_int, fIsN_non, fNe_int, mDrop, wipeE, mYes, My.isNon, miRng1, miRng2, fInt_int, truD, fShl_int, fPow_int, fAbs_int, fEq_bl, fIsi_tt, fIsi_it, fIsi_ii, fIsi_ib, fIsi_bt, fIsi_bi, fIsi_bb, fIsi_tb, fIsi_ti, last_concat, List.dropLast_concat, look_loc, lookL_loc, fLen_loc, ixN_0, ixN_1, ixN_2, ixN_3, fSetL_loc, fAppend_loc, fPop_loc, fExtend_loc, mgSub, mMt, alloc_t, mFrz, mSl, mRev, mNone, mSome, mLst, fNeg, fSet_tup, fSet_lst, fInS_int, fSortS_set, fAll_lst, fAdd_tup, fEq_str, fNe_str, fIsN_str, fIsN_bl, fIsN_tup, fIsN_lst, fIsi_si, fIsi_ss, fIsi_sb, fIsi_st, fIsi_ts, fIsB_non, fIsB_int, fIsB_str, fIsB_tup, fIsB_bl, fAdd_str, fTuple_loc, fLen_fro, mNotT, mCV, mBreak, mCont, z0, z1, z2, z3, z4, z5, z6, z7, z8, z9, List.lookup_cons,
  b_some, b_none, m_some, Option.join_some, List.getElem?_cons_zero, List.getElem?_cons_succ, List.set_cons_zero, List.set_cons_succ, List.map_cons, List.map_nil, List.length_cons, List.length_nil, List.replicate, List.cons_append, List.nil_append, Nat.reduceAdd, Nat.reduceSub, if_true, if_false, reduceIte, reduceCtorEq, ite_bind, Bool.false_eq_true, decide_eq_true_eq, List.length_map, decide_true, decide_false, Bool.not_true, Bool.not_false])
local macro_rules | `(tactic| walk_at "nx") => `(tactic| (refine (mSeq_nx (by (walk_at "ev"; rfl))).trans ?_))
/-! ### texts in sequence -/
abbrev ltS (a b : Str) : Prop := a.cps.toList < b.cps.toList
theorem leD_str (a b : Str) : leD (.str a) (.str b) = !decide (ltS b a) := by
  unfold leD
  rw [PySem.W.dataLe_eq]
  show (!PySem.W.dataLt (.str b) (.str a)) = _
  rw [PySem.W.dataLt_str]
theorem str_ext {a b : Str} (h : a.cps.toList = b.cps.toList) : a = b := by
  obtain ⟨a⟩ := a
  obtain ⟨b⟩ := b
  have h : a.toList = b.toList := h
  rw [Array.toList_inj.mp h]
theorem srt_lt {l : List Str} (nd : l.Nodup) : (srt D.str l).Pairwise ltS := by
  have h1 : (srt D.str l).Pairwise (fun a b => leD (.str a) (.str b) = true) := by
    unfold srt
    refine List.pairwise_mergeSort (fun a b c h1 h2 => ?_) (fun a b => ?_) l
    · rw [leD_str] at h1 h2 ⊢
      simp only [Bool.not_eq_true', decide_eq_false_iff_not] at h1 h2 ⊢
      exact List.not_lt.mpr (List.le_trans (List.not_lt.mp h1) (List.not_lt.mp h2))
    · rw [leD_str, leD_str]
      simp only [Bool.or_eq_true, Bool.not_eq_true', decide_eq_false_iff_not]
      rcases List.le_total a.cps.toList b.cps.toList with h | h
      · exact .inl (List.not_lt.mpr h)
      · exact .inr (List.not_lt.mpr h)
  have h2 : (srt D.str l).Nodup := (srt_perm D.str l).nodup_iff.mpr nd
  refine (h1.and h2).imp fun {a b} h => ?_
  obtain ⟨h3, h4⟩ := h
  rw [leD_str] at h3
  simp only [Bool.not_eq_true', decide_eq_false_iff_not] at h3
  have h5 := List.not_lt.mp h3
  by_cases h6 : ltS a b
  · exact h6
  · exact absurd (str_ext (List.le_antisymm h5 (List.not_lt.mp h6))) h4
/-! ### is_name -/
theorem sm_eq : ("abcdefghijklmnopqrstuvwxyz" : Str).cps.toList = LT := by decide +kernel
theorem fg_eq : ("0123456789" : Str).cps.toList = FG := by decide +kernel
theorem sm_len : ("abcdefghijklmnopqrstuvwxyz" : Str).length = 26 := by decide +kernel
theorem fg_len : ("0123456789" : Str).length = 10 := by decide +kernel
theorem fInT_one (neg : Bool) (c : Nat) (z : Str) (st : Sto) : fInT neg (.str ⟨#[c]⟩) (.str z) st = some (.bl (if neg then !decide (c ∈ z.cps.toList) else decide (c ∈ z.cps.toList)), st) := rfl
theorem fLen_str {s : Str} (h : s.length < 10000000) (st : Sto) : fLen [.str s] st = some (.int s.length, st) := by
  show (if s.length ≤ PySem.sizeLine then _ else _) = _
  rw [if_pos (szle h)]
theorem chain_le {ma mb mc : ME} {en : En} {st : Sto} {i j k : Int} (ha : ma en st = some (.int i, st)) (hb : mb en st = some (.int j, st)) (hc : mc en st = some (.int k, st)) :
    (mTB (mChain fLe fLe ma mb mc)) en st = some (decide (i ≤ j) && decide (j ≤ k), st) := by
  unfold mTB mChain
  rw [ha, b_some, hb, b_some]
  show (Option.bind (Option.bind (some (D.bl (decide (i ≤ j)), st)) _) _) = _
  rw [b_some]
  by_cases h : i ≤ j
  · rw [decide_eq_true h]
    dsimp only
    rw [hc, b_some]
    rfl
  · rw [decide_eq_false h]
    rfl
theorem orB {a b : MB} {en : En} {st : Sto} {x y : Bool} (h : a en st = some (x, st)) (k : x = false → b en st = some (y, st)) : mOr a b en st = some (x || y, st) := by
  unfold mOr
  rw [h, b_some]
  cases x with
  | true => rfl
  | false => exact (k rfl).trans (by rw [Bool.false_or])
theorem andB {a b : MB} {en : En} {st : Sto} {x y : Bool} (h : a en st = some (x, st)) (k : x = true → b en st = some (y, st)) : mAnd a b en st = some (x && y, st) := by
  unfold mAnd
  rw [h, b_some]
  cases x with
  | false => rfl
  | true => exact (k rfl).trans (by rw [Bool.true_and])
theorem notB {a : MB} {en : En} {st : Sto} {x : Bool} (h : a en st = some (x, st)) : mNot a en st = some (!x, st) := by
  unfold mNot
  rw [h, b_some]
def fstOk (s : Str) : Bool := match hdC s with
  | some c => decide (c ∈ LT)
  | none => false
def isName (s : Str) : Bool := decide (1 ≤ s.length) && (decide (s.length ≤ 8) && (!decide (s ∈ KW) && (fstOk s && s.cps.toList.all fun c => decide (c ∈ SG))))
theorem Vn.is {s : Str} (h : Vn s) : isName s = true := by
  obtain ⟨c, hc, hl⟩ := h.fst
  have h1 : 1 ≤ s.length := by
    rw [len_cps]
    exact List.length_pos_iff.mpr h.nm.ne
  unfold isName fstOk
  rw [decide_eq_true h1, decide_eq_true h.len, decide_eq_false h.kept, hc]
  simp only [Bool.true_and, Bool.not_false, Bool.and_eq_true, decide_eq_true_eq, List.all_eq_true]
  exact ⟨hl, h.nm.sg⟩
theorem kept_tup (st : Sto) : look (.tup [(.str "good"), (.str "start"), (.str "offer"), (.str "other"), (.str "house"), (.str "least"), (.str "most"), (.str "from"), (.str "turn"), (.str "rests"), (.str "none"), (.str "never"), (.str "may"), (.str "deal"), (.str "join")]) st = some (KW.map .str) := rfl
theorem name_eq {s : Str} (hs : s.length < 10000) (st : Sto) : m_is_name [.str s] st = some (.bl (isName s), st) := by
  let E : Option D → En := fun a => [some (.str s), a]
  have t1 : (mT (mCb fIsi (mCons (mV 0) (mCons (mC (.ty "str")) mNil)))) (E none) st = some (true, st) := by
    dsimp only [E]; walk_at "ev"
  have t2 : (mTB (mChain fLe fLe (mC (.int 1)) (mCb fLen (mCons (mV 0) mNil)) (mC (.int 8)))) (E none) st = some (decide ((1 : Int) ≤ s.length) && decide ((s.length : Int) ≤ 8), st) := by
    refine chain_le rfl ?_ rfl
    dsimp only [E]; walk_at "ev"
    exact fLen_str (by omega) st
  have t3 : (mTB (mOp (fIn false) (mV 0) (mC (.tup [(.str "good"), (.str "start"), (.str "offer"), (.str "other"), (.str "house"), (.str "least"), (.str "most"), (.str "from"), (.str "turn"), (.str "rests"), (.str "none"), (.str "never"), (.str "may"), (.str "deal"), (.str "join")])))) (E none) st = some (decide (s ∈ KW), st) := by
    unfold mTB mOp mC
    dsimp only [E]
    rw [mV_at (i := 0) rfl, b_some, b_some]
    dsimp only
    rw [fIn_strs false s KW (kept_tup st)]
    rfl
  have tst : (mOr (mNot (mT (mCb fIsi (mCons (mV 0) (mCons (mC (.ty "str")) mNil))))) (mOr (mNot (mTB (mChain fLe fLe (mC (.int 1)) (mCb fLen (mCons (mV 0) mNil)) (mC (.int 8))))) (mTB (mOp (fIn false) (mV 0) (mC (.tup [(.str "good"), (.str "start"), (.str "offer"), (.str "other"), (.str "house"), (.str "least"), (.str "most"), (.str "from"), (.str "turn"), (.str "rests"), (.str "none"), (.str "never"), (.str "may"), (.str "deal"), (.str "join")])))))) (E none) st
      = some (!(decide ((1 : Int) ≤ s.length) && decide ((s.length : Int) ≤ 8)) || decide (s ∈ KW), st) := by
    have k := orB (notB t1) (fun _ => orB (notB t2) (fun _ => t3))
    rw [k]
    simp
  have e1 : decide ((1 : Int) ≤ s.length) = decide (1 ≤ s.length) := by
    by_cases h : 1 ≤ s.length
    · rw [decide_eq_true h, decide_eq_true (by omega)]
    · rw [decide_eq_false h, decide_eq_false (by omega)]
  have e2 : decide ((s.length : Int) ≤ 8) = decide (s.length ≤ 8) := by
    by_cases h : s.length ≤ 8
    · rw [decide_eq_true h, decide_eq_true (by omega)]
    · rw [decide_eq_false h, decide_eq_false (by omega)]
  rw [e1, e2] at tst
  unfold isName
  refine mDef_rt rfl ?_
  by_cases hb : (!(decide (1 ≤ s.length) && decide (s.length ≤ 8)) || decide (s ∈ KW)) = true
  · refine mSeq_rt ?_
    unfold ms_is_name_0
    refine (mIfS_t (st1 := st) (tst.trans (by rw [hb]))).trans ?_
    have e : (decide (1 ≤ s.length) && (decide (s.length ≤ 8) && (!decide (s ∈ KW) && (fstOk s && s.cps.toList.all fun c => decide (c ∈ SG))))) = false := by
      cases h1 : decide (1 ≤ s.length) <;> cases h2 : decide (s.length ≤ 8) <;> cases h3 : decide (s ∈ KW) <;> simp_all
    rw [e]
    rfl
  · have hb := Bool.eq_false_iff.mpr hb
    refine (mSeq_nx (en' := E none) (st' := st) ?_).trans ?_
    · unfold ms_is_name_0
      exact (mIfS_f (tst.trans (by rw [hb]))).trans rfl
    · have h1 : 1 ≤ s.length ∧ s.length ≤ 8 ∧ s ∉ KW := by
        simp only [Bool.or_eq_false_iff, Bool.not_eq_false', Bool.and_eq_true, decide_eq_true_eq, decide_eq_false_iff_not] at hb
        exact ⟨hb.1.1, hb.1.2, hb.2⟩
      rw [decide_eq_true h1.1, decide_eq_true h1.2.1, decide_eq_false h1.2.2]
      simp only [Bool.true_and, Bool.not_false]
      obtain ⟨c, r, hc⟩ : ∃ c r, s.cps.toList = c :: r := by
        cases e : s.cps.toList with
        | nil => have := h1.1; rw [len_cps, e] at this; simp at this
        | cons c r => exact ⟨c, r, rfl⟩
      have hf : fstOk s = decide (c ∈ LT) := by unfold fstOk hdC; rw [hc]; rfl
      have u1 : (mOp (fInT false) (mOp fIxA (mV 0) (mC (.int 0))) (mC (.str "abcdefghijklmnopqrstuvwxyz"))) (E none) st = some (.bl (fstOk s), st) := by
        unfold mOp mC
        dsimp only [E]
        rw [mV_at (i := 0) rfl, b_some, b_some]
        dsimp only
        rw [fIxA_str, if_pos (szle (by omega)), hc]
        rw [atI_0, m_some, b_some, b_some]
        dsimp only
        rw [fInT_one, sm_eq, hf]
        rfl
      have hm : miStr (mV 0) (E none) st = some (⟨s.cps.toList.map sgn, none⟩, st) := by
        unfold miStr
        dsimp only [E]
        rw [mV_at (i := 0) rfl, b_some]
        rfl
      have lc := lc_A (mu := false) (T := .name 1) (tt := mYes) (te := (mOp (fInT false) (mV 1) (mOp (fAdd false) (mC (.str "abcdefghijklmnopqrstuvwxyz")) (mC (.str "0123456789"))))) (vs := [1]) hm (fun _ => true) (fun c => .bl (decide (c ∈ SG))) trivial (by rw [← len_cps]; omega) (by
        intro c _
        refine ⟨E (some (sgn c)), rfl, rfl, fun _ => ?_⟩
        unfold mOp mC
        dsimp only [E]
        rw [mV_at (i := 1) rfl, b_some, b_some, b_some]
        dsimp only
        rw [fAdd_str, if_pos (szle (by rw [sm_len, fg_len]; omega)), b_some]
        show fInT false (.str ⟨#[c]⟩) _ st = _
        rw [fInT_one, app_cps, sm_eq, fg_eq, ← sg_split]
        rfl)
      unfold ms_is_name_2 mRet mAndV
      rw [u1, b_some]
      cases fstOk s with
      | false => rfl
      | true =>
        dsimp only
        unfold mCb mCons mNil
        rw [lc, b_some, List.filter_eq_self.mpr fun _ _ => rfl]
        show (Option.bind (fAll [.lst (s.cps.toList.map fun c => D.bl (decide (c ∈ SG)))] st) _) = _
        have e : (s.cps.toList.map fun c => D.bl (decide (c ∈ SG))) = (s.cps.toList.map fun c => decide (c ∈ SG)).map D.bl := by rw [List.map_map]; rfl
        rw [e, fAll_lst, b_some, List.all_map]
        rfl
end K21


namespace K21
open PySem PySem.Spec PyProof.Rows L2 My
local macro_rules | `(tactic| walk_at "ev") => `(tactic| try simp only [mDef, mSeq, mAsg, mV_eq, mC, mOp, mUn, mCb, mNil, mCons, mTup, mIfS, mTB, mT, mRet, mNext, mgTup, mgCons, mgNil, mgT, mgName, setTg, setTgs, mIf, mAnd, mOr, mNot, mAndV, mOrV, mNotV, fB, fLt_int, fLe, fGt, fGe, fAdd_int, fSub_int, fMod_int, fDiv_int, fMul_int, fNeg_int, fIn_tup, fIn_lst, settle_same, fIx, look_tup, look_d, look_lst, look_fro, lookL_lst, atI_0, atI_1, atI_2, atI_3, fLen_tup, fLen_lst, miSeq, srcOf, mPar, mAug, mRetN, fTuple_lst, fTuple_tup, alloc_f, fEq_int, fMaxL_2, fMinL_2, fSorted_ints, fIsN_int, fIsN_non, fNe_int, mDrop, wipeE, mYes, My.isNon, miRng1, miRng2, fInt_int, truD, fShl_int, fPow_int, fAbs_int, fEq_bl, fIsi_tt, fIsi_it, fIsi_ii, fIsi_ib, fIsi_bt, fIsi_bi, fIsi_bb, fIsi_tb, fIsi_ti, last_concat, List.dropLast_concat, look_loc, lookL_loc, fLen_loc, ixN_0, ixN_1, ixN_2, ixN_3, fSetL_loc, fAppend_loc, fPop_loc, fExtend_loc, mgSub, mMt, alloc_t, mFrz, mSl, mRev, mNone, mSome, mLst, fNeg, fSet_tup, fSet_lst, fInS_int, fSortS_set, fAll_lst, fAdd_tup, fEq_str, fNe_str, fIsN_str, fIsN_bl, fIsN_tup, fIsN_lst, fIsi_si, fIsi_ss, fIsi_sb, fIsi_st, fIsi_ts, fIsB_non, fIsB_int, fIsB_str, fIsB_tup, fIsB_bl, fAdd_str, fTuple_loc, fLen_fro, mNotT, mCV, mBreak, mCont, z0, z1, z2, z3, z4, z5, z6, z7, z8, z9, List.lookup_cons,
  b_some, b_none, m_some, Option.join_some, List.getElem?_cons_zero, List.getElem?_cons_succ, List.set_cons_zero, List.set_cons_succ, List.map_cons, List.map_nil, List.length_cons, List.length_nil, List.replicate, List.cons_append, List.nil_append, Nat.reduceAdd, Nat.reduceSub, if_true, if_false, reduceIte, reduceCtorEq, ite_bind, Bool.false_eq_true, decide_eq_true_eq, List.length_map, decide_true, decide_false, Bool.not_true, Bool.not_false])
local macro_rules | `(tactic| walk_at "nx") => `(tactic| (refine (mSeq_nx (by (walk_at "ev"; rfl))).trans ?_))
/-! ### the law's own is_name -/
def badC (x : Nat × Nat) : Bool := !decide (x.1 ∈ LT) && (decide (x.2 = 0) || !decide (x.1 ∈ FG))
theorem sg_mem (c : Nat) : decide (c ∈ SG) = (decide (c ∈ LT) || decide (c ∈ FG)) := by
  rw [sg_split]
  by_cases h : c ∈ LT <;> by_cases k : c ∈ FG <;> simp [h, k]
theorem bad_any : ∀ (r : List Nat) (n : Nat), 0 < n → (r.zipIdx n).any badC = !r.all (fun c => decide (c ∈ SG))
  | [], _, _ => rfl
  | c :: r, n, h => by
    have e : badC (c, n) = !decide (c ∈ SG) := by
      unfold badC
      rw [sg_mem, decide_eq_false (by omega : ¬ n = 0), Bool.false_or, Bool.not_or]
    rw [List.zipIdx_cons, List.any_cons, bad_any r (n + 1) (by omega), List.all_cons, e, Bool.not_and]
theorem bad_all (c : Nat) (r : List Nat) : (!((c :: r).zipIdx).any badC) = (decide (c ∈ LT) && (c :: r).all fun c => decide (c ∈ SG)) := by
  have e : badC (c, 0) = !decide (c ∈ LT) := by
    unfold badC
    rw [decide_eq_true (rfl : (c, 0).2 = 0), Bool.true_or, Bool.and_true]
  rw [List.zipIdx_cons, List.any_cons, bad_any r _ (by omega), e, List.all_cons, sg_mem c]
  cases decide (c ∈ LT) <;> simp
theorem enum_signs (s : Str) : enumD (My.signs s) = s.cps.toList.zipIdx.map fun p => .tup [.int (p.2 : Nat), sgn p.1] := by
  unfold enumD My.signs
  rw [List.zipIdx_map, List.map_map]
  rfl
theorem find_any {α : Type} (p : α → Bool) : ∀ l : List α, (l.find? p = none ↔ l.any p = false)
  | [] => by simp
  | a :: l => by
    rw [List.find?_cons, List.any_cons]
    cases p a with
    | true => simp
    | false => simpa using find_any p l
theorem lname_eq {s : Str} (hs : s.length < 10000) (st : Sto) : m__law_is_name [.str s] st = some (.bl (isName s), st) := by
  let E : Option D → Option D → En := fun k c => [some (.str s), k, c]
  have t1 : (mTB (mOp fLt (mCb fLen (mCons (mV 0) mNil)) (mC (.int 1)))) (E none none) st = some (decide (¬ 1 ≤ s.length), st) := by
    dsimp only [E]; walk_at "ev"
    rw [fLen_str (by omega)]
    walk_at "ev"
    congr 2
    by_cases h : 1 ≤ s.length <;> simp [h] <;> omega
  have t2 : (mTB (mOp fGt (mCb fLen (mCons (mV 0) mNil)) (mC (.int 8)))) (E none none) st = some (decide (¬ s.length ≤ 8), st) := by
    dsimp only [E]; walk_at "ev"
    rw [fLen_str (by omega)]
    walk_at "ev"
    congr 2
    by_cases h : s.length ≤ 8 <;> simp [h] <;> omega
  have t3 : (mTB (mOp (fIn false) (mV 0) (mCb m__law_words mNil))) (E none none) st = some (decide (s ∈ KW), st) := by
    unfold mTB mOp mCb mNil
    dsimp only [E]
    rw [mV_at (i := 0) rfl]
    show ((((m__law_words [] st).bind fun q => fIn false (.str s) q.1 q.2)).bind _) = _
    rw [words_call]
    show ((fIn false (.str s) (.lst (KW.map .str)) st).bind _) = _
    rw [fIn_strs false s KW (look_lst _ _)]
    rfl
  have tst := orB t1 (fun _ => orB t2 (fun _ => t3))
  unfold isName
  refine mDef_rt rfl ?_
  by_cases hb : (decide (¬ 1 ≤ s.length) || (decide (¬ s.length ≤ 8) || decide (s ∈ KW))) = true
  · refine mSeq_rt ?_
    unfold ms__law_is_name_2
    refine (mIfS_t (st1 := st) (tst.trans (by rw [hb]))).trans ?_
    have e : (decide (1 ≤ s.length) && (decide (s.length ≤ 8) && (!decide (s ∈ KW) && (fstOk s && s.cps.toList.all fun c => decide (c ∈ SG))))) = false := by
      rw [decide_not, decide_not] at hb
      cases h1 : decide (1 ≤ s.length) <;> cases h2 : decide (s.length ≤ 8) <;> cases h3 : decide (s ∈ KW) <;> simp_all
    rw [e]
    rfl
  · have hb := Bool.eq_false_iff.mpr hb
    refine (mSeq_nx (en' := E none none) (st' := st) ?_).trans ?_
    · unfold ms__law_is_name_2
      exact (mIfS_f (tst.trans (by rw [hb]))).trans rfl
    · have h1 : 1 ≤ s.length ∧ s.length ≤ 8 ∧ s ∉ KW := by
        simp only [Bool.or_eq_false_iff, decide_eq_false_iff_not, Decidable.not_not] at hb
        exact ⟨hb.1, hb.2.1, hb.2.2⟩
      rw [decide_eq_true h1.1, decide_eq_true h1.2.1, decide_eq_false h1.2.2]
      simp only [Bool.true_and, Bool.not_false]
      obtain ⟨c, r, hc⟩ : ∃ c r, s.cps.toList = c :: r := by
        cases e : s.cps.toList with
        | nil => have := h1.1; rw [len_cps, e] at this; simp at this
        | cons c r => exact ⟨c, r, rfl⟩
      have hf : fstOk s = decide (c ∈ LT) := by unfold fstOk hdC; rw [hc]; rfl
      have hm : miEnumS (mCons (mV 0) mNil) (E none none) st = some (⟨s.cps.toList.zipIdx.map fun p => .tup [.int (p.2 : Nat), sgn p.1], none⟩, st) := by
        unfold miEnumS
        dsimp only [E]
        walk_at "ev"
        rw [enum_signs]
      have fa := find_A (T := .tup [(.name 1), (.name 2)]) (b := ms__law_is_name_0) hm badC (fun _ => .bl false) (fun en => ∃ k c, en = E k c) ⟨_, _, rfl⟩ (by
        rintro ⟨c, k⟩ _ en ⟨k0, c0, rfl⟩
        have u1 : (mTB (mOp (fInT true) (mV 2) (mC (.str "abcdefghijklmnopqrstuvwxyz")))) (E (some (.int (k : Nat))) (some (sgn c))) st = some (!decide (c ∈ LT), st) := by
          unfold mTB mOp mC
          dsimp only [E]
          rw [mV_at (i := 2) rfl, b_some, b_some]
          dsimp only
          show Option.bind (fInT true (.str ⟨#[c]⟩) _ st) _ = _
          rw [fInT_one, sm_eq]
          rfl
        have u2 : (mTB (mOp fEq (mV 1) (mC (.int 0)))) (E (some (.int (k : Nat))) (some (sgn c))) st = some (decide (k = 0), st) := by
          dsimp only [E]; walk_at "ev"
          congr 2
          by_cases h : k = 0 <;> simp [h]
        have u3 : (mTB (mOp (fInT true) (mV 2) (mC (.str "0123456789")))) (E (some (.int (k : Nat))) (some (sgn c))) st = some (!decide (c ∈ FG), st) := by
          unfold mTB mOp mC
          dsimp only [E]
          rw [mV_at (i := 2) rfl, b_some, b_some]
          dsimp only
          show Option.bind (fInT true (.str ⟨#[c]⟩) _ st) _ = _
          rw [fInT_one, fg_eq]
          rfl
        have ut := andB u1 (fun _ => orB u2 (fun _ => u3))
        refine ⟨E (some (.int (k : Nat))) (some (sgn c)), rfl, fun h => ?_, fun h => ⟨E (some (.int (k : Nat))) (some (sgn c)), ?_, _, _, rfl⟩⟩
        · unfold ms__law_is_name_0
          refine (mIfS_t (st1 := st) (ut.trans (congrArg (fun b => some (b, st)) h))).trans rfl
        · unfold ms__law_is_name_0
          refine (mIfS_f (st1 := st) (ut.trans (congrArg (fun b => some (b, st)) h))).trans rfl)
      have ba := bad_all c r
      rw [← hc] at ba
      rw [hf, ← ba]
      rcases fa with ⟨en2, h3, h4, k, c2, rfl⟩ | ⟨x, h3, h4⟩
      · rw [(find_any _ _).mp h3]
        refine (mSeq_nx (by unfold ms__law_is_name_4; exact h4)).trans ?_
        dsimp only [E]; walk_at "ev"
      · have h5 : (s.cps.toList.zipIdx).any badC = true := by
          cases h : (s.cps.toList.zipIdx).any badC with
          | true => rfl
          | false => rw [(find_any _ _).mpr h] at h3; cases h3
        rw [h5]
        refine mSeq_rt ?_
        unfold ms__law_is_name_4
        exact h4
end K21


namespace K21
open PySem PySem.Spec PyProof.Rows L2 My
local macro_rules | `(tactic| walk_at "ev") => `(tactic| try simp only [mDef, mSeq, mAsg, mV_eq, mC, mOp, mUn, mCb, mNil, mCons, mTup, mIfS, mTB, mT, mRet, mNext, mgTup, mgCons, mgNil, mgT, mgName, setTg, setTgs, mIf, mAnd, mOr, mNot, mAndV, mOrV, mNotV, fB, fLt_int, fLe, fGt, fGe, fAdd_int, fSub_int, fMod_int, fDiv_int, fMul_int, fNeg_int, fIn_tup, fIn_lst, settle_same, fIx, look_tup, look_d, look_lst, look_fro, lookL_lst, atI_0, atI_1, atI_2, atI_3, fLen_tup, fLen_lst, miSeq, srcOf, mPar, mAug, mRetN, fTuple_lst, fTuple_tup, alloc_f, fEq_int, fMaxL_2, fMinL_2, fSorted_ints, fIsN_int, fIsN_non, fNe_int, mDrop, wipeE, mYes, My.isNon, miRng1, miRng2, fInt_int, truD, fShl_int, fPow_int, fAbs_int, fEq_bl, fIsi_tt, fIsi_it, fIsi_ii, fIsi_ib, fIsi_bt, fIsi_bi, fIsi_bb, fIsi_tb, fIsi_ti, last_concat, List.dropLast_concat, look_loc, lookL_loc, fLen_loc, ixN_0, ixN_1, ixN_2, ixN_3, fSetL_loc, fAppend_loc, fPop_loc, fExtend_loc, mgSub, mMt, alloc_t, mFrz, mSl, mRev, mNone, mSome, mLst, fNeg, fSet_tup, fSet_lst, fInS_int, fSortS_set, fAll_lst, fAdd_tup, fEq_str, fNe_str, fIsN_str, fIsN_bl, fIsN_tup, fIsN_lst, fIsi_si, fIsi_ss, fIsi_sb, fIsi_st, fIsi_ts, fIsB_non, fIsB_int, fIsB_str, fIsB_tup, fIsB_bl, fAdd_str, fTuple_loc, fLen_fro, mNotT, mCV, mBreak, mCont, z0, z1, z2, z3, z4, z5, z6, z7, z8, z9, List.lookup_cons,
  b_some, b_none, m_some, Option.join_some, List.getElem?_cons_zero, List.getElem?_cons_succ, List.set_cons_zero, List.set_cons_succ, List.map_cons, List.map_nil, List.length_cons, List.length_nil, List.replicate, List.cons_append, List.nil_append, Nat.reduceAdd, Nat.reduceSub, if_true, if_false, reduceIte, reduceCtorEq, ite_bind, Bool.false_eq_true, decide_eq_true_eq, List.length_map, decide_true, decide_false, Bool.not_true, Bool.not_false])
local macro_rules | `(tactic| walk_at "nx") => `(tactic| (refine (mSeq_nx (by (walk_at "ev"; rfl))).trans ?_))
/-! ### what a thing is -/
def pl : D → Bool
  | .non => true
  | .bl _ => true
  | .int _ => true
  | .str _ => true
  | .tup _ => true
  | .lst _ => true
  | _ => false
def isTp : D → Bool
  | .tup _ => true
  | _ => false
def isSt : D → Bool
  | .str _ => true
  | _ => false
def isIB : D → Bool
  | .int _ => true
  | .bl _ => true
  | _ => false
def isBo : D → Bool
  | .bl _ => true
  | _ => false
def isIn : D → Bool
  | .int _ => true
  | _ => false
theorem isi_t {d : D} (h : pl d = true) (st : Sto) : fIsi [d, .ty "tuple"] st = some (.bl (isTp d), st) := by cases d <;> first | rfl | cases h
theorem isi_s {d : D} (h : pl d = true) (st : Sto) : fIsi [d, .ty "str"] st = some (.bl (isSt d), st) := by cases d <;> first | rfl | cases h
theorem isi_i {d : D} (h : pl d = true) (st : Sto) : fIsi [d, .ty "int"] st = some (.bl (isIB d), st) := by cases d <;> first | rfl | cases h
theorem isi_b {d : D} (h : pl d = true) (st : Sto) : fIsi [d, .ty "bool"] st = some (.bl (isBo d), st) := by cases d <;> first | rfl | cases h
theorem mT_bl {m : ME} {en : En} {st : Sto} {b : Bool} (h : m en st = some (.bl b, st)) : mT m en st = some (b, st) := by
  unfold mT
  rw [h, b_some]
  rfl
theorem isiT {m : ME} {en : En} {st : Sto} {d : D} {t : String} {b : Bool} (hm : m en st = some (d, st)) (h : fIsi [d, .ty t] st = some (.bl b, st)) : (mT (mCb fIsi (mCons m (mCons (mC (.ty t)) mNil)))) en st = some (b, st) := by
  refine mT_bl ?_
  unfold mCb mCons mNil mC
  rw [hm, b_some]
  exact h
theorem isInt_eq {d : D} (h : pl d = true) (st : Sto) : m_is_integer [d] st = some (.bl (isIn d), st) := by
  refine mDef_rt rfl ?_
  unfold ms_is_integer_0
  cases d with
  | int i =>
    walk_at "ev"
    rfl
  | bl b =>
    walk_at "ev"
    rfl
  | _ => first | (cases h; done) | rfl
structure RowOk (r : D) : Prop where
  pl : pl r = true
  el : ∀ xs, r = .tup xs → ∀ x ∈ xs, K21.pl x = true
  sz : ∀ n xs, r = .tup (.str n :: xs) → n.length < 10000
def stO : D → Option Str
  | .str n => some n
  | _ => none
def inO : D → Option Int
  | .int n => some n
  | _ => none
def tri : D → Option (Str × Str × Int)
  | .tup xs => match xs with
    | [a, b, c] => (stO a).bind fun n => (stO b).bind fun g => (inO c).map fun m => (n, g, m)
    | _ => none
  | _ => none
def wShape : Str := "shape"
def wName : Str := "name"
def wOrder : Str := "order"
def wGood : Str := "good"
def wMoney : Str := "money"
def ordB (ah : Option Str) (n : Str) : Bool := match ah with
  | none => false
  | some a => !decide (ltS a n)
/-- the first word against a row -/
def rowW (gs : List Str) (ah : Option Str) (r : D) : Option Str := match tri r with
  | some (n, g, m) => if isName n = false then some wName else if ordB ah n = true then some wOrder else if g ∉ gs then some wGood else if m < 0 then some wMoney else none
  | none => some wShape
theorem rowW_s (gs : List Str) (ah : Option Str) (n g : Str) (m : Int) : rowW gs ah (.tup [.str n, .str g, .int m]) = if isName n = false then some wName else if ordB ah n = true then some wOrder else if g ∉ gs then some wGood else if m < 0 then some wMoney else none := rfl
def oS : Option Str → D
  | none => .non
  | some s => .str s
theorem rowW_3 (gs : List Str) (ah : Option Str) {a b c : D} (h : (!isSt a || (!isSt b || !isIn c)) = true) : rowW gs ah (.tup [a, b, c]) = some wShape := by
  cases a with
  | str n =>
    cases b with
    | str g =>
      cases c with
      | int m => cases h
      | _ => rfl
    | _ => rfl
  | _ => rfl
theorem three {a b c : D} (h : (!isSt a || (!isSt b || !isIn c)) = false) : ∃ n g m, a = .str n ∧ b = .str g ∧ c = .int m := by
  cases a with
  | str n =>
    cases b with
    | str g =>
      cases c with
      | int m => exact ⟨n, g, m, rfl, rfl, rfl⟩
      | _ => cases h
    | _ => cases h
  | _ => cases h
theorem rowW_n (gs : List Str) (ah : Option Str) {xs : List D} (h : xs.length ≠ 3) : rowW gs ah (.tup xs) = some wShape := by
  match xs, h with
  | [], _ => rfl
  | [_], _ => rfl
  | [_, _], _ => rfl
  | [_, _, _], h => exact absurd rfl h
  | _ :: _ :: _ :: _ :: _, _ => rfl
theorem rowW_p (gs : List Str) (ah : Option Str) {r : D} (h : isTp r = false) : rowW gs ah r = some wShape := by
  cases r with
  | tup xs => cases h
  | _ => rfl
theorem len3 {xs : List D} (h : xs.length = 3) : ∃ a b c, xs = [a, b, c] := by
  match xs, h with
  | [a, b, c], _ => exact ⟨a, b, c, rfl⟩
abbrev mk (gs : List Str) (S O : D) : D := .tup [.tup (gs.map .str), S, O]
theorem trader_eq {gs : List Str} {S O r : D} (ah : Option Str) (ok : RowOk r) (st : Sto) : m_trader_word [mk gs S O, r, oS ah] st = some (oS (rowW gs ah r), st) := by
  let E : D → Option D → Option D → Option D → En := fun r n g m => [some (mk gs S O), some r, some (oS ah), n, g, m]
  refine mDef_rt rfl ?_
  have t1 : (mT (mCb fIsi (mCons (mV 1) (mCons (mC (.ty "tuple")) mNil)))) (E r none none none) st = some (isTp r, st) := isiT (mV_at rfl) (isi_t ok.pl st)
  cases htp : isTp r with
  | false =>
    rw [rowW_p gs ah htp]
    refine mSeq_rt ?_
    unfold ms_trader_word_0
    refine (mIfS_t (st1 := st) ?_).trans rfl
    have t2 := orB (y := true) (b := (mTB (mOp fNe (mCb fLen (mCons (mV 1) mNil)) (mC (.int 3))))) (notB t1) (fun h => by rw [htp] at h; cases h)
    rw [htp] at t2
    exact t2
  | true =>
    obtain ⟨xs, rfl⟩ : ∃ xs, r = .tup xs := by
      cases r with
      | tup xs => exact ⟨xs, rfl⟩
      | _ => cases htp
    have t2 : (mTB (mOp fNe (mCb fLen (mCons (mV 1) mNil)) (mC (.int 3)))) (E (.tup xs) none none none) st = some (decide (xs.length ≠ 3), st) := by
      dsimp only [E]; walk_at "ev"
      congr 2
      by_cases h : xs.length = 3 <;> simp [h] <;> omega
    have tst := orB (notB t1) (fun _ => t2)
    rw [htp] at tst
    by_cases h3 : xs.length = 3
    rotate_left
    · rw [rowW_n gs ah h3]
      refine mSeq_rt ?_
      unfold ms_trader_word_0
      refine (mIfS_t (st1 := st) ?_).trans rfl
      rw [decide_eq_true h3] at tst
      exact tst
    · have a1 : ms_trader_word_0 (E (.tup xs) none none none) st = some (.nx (E (.tup xs) none none none), st) := by
        unfold ms_trader_word_0
        refine (mIfS_f (st1 := st) ?_).trans rfl
        rw [decide_eq_false (fun h => h h3)] at tst
        exact tst
      obtain ⟨a, b, c, rfl⟩ := len3 h3
      have pa : pl a = true := ok.el _ rfl a (by simp)
      have pb : pl b = true := ok.el _ rfl b (by simp)
      have pc : pl c = true := ok.el _ rfl c (by simp)
      have a2 : ms_trader_word_2 (E (.tup [a, b, c]) none none none) st = some (.nx (E (.tup [a, b, c]) (some a) (some b) (some c)), st) := by
        unfold ms_trader_word_2
        dsimp only [E]; walk_at "ev"
      have u1 : (mT (mCb fIsi (mCons (mV 3) (mCons (mC (.ty "str")) mNil)))) (E (.tup [a, b, c]) (some a) (some b) (some c)) st = some (isSt a, st) := isiT (mV_at rfl) (isi_s pa st)
      have u2 : (mT (mCb fIsi (mCons (mV 4) (mCons (mC (.ty "str")) mNil)))) (E (.tup [a, b, c]) (some a) (some b) (some c)) st = some (isSt b, st) := isiT (mV_at rfl) (isi_s pb st)
      have u3 : (mT (mCb m_is_integer (mCons (mV 5) mNil))) (E (.tup [a, b, c]) (some a) (some b) (some c)) st = some (isIn c, st) := by
        refine mT_bl ?_
        unfold mCb mCons mNil
        dsimp only [E]
        rw [mV_at (i := 5) rfl, b_some]
        exact isInt_eq pc st
      have ut := orB (notB u1) (fun _ => orB (notB u2) (fun _ => notB u3))
      refine (mSeq_nx a1).trans ((mSeq_nx a2).trans ?_)
      cases hs : (!isSt a || (!isSt b || !isIn c)) with
      | true =>
        rw [rowW_3 gs ah hs]
        rw [hs] at ut
        refine mSeq_rt ?_
        unfold ms_trader_word_4
        exact (mIfS_t ut).trans rfl
      | false =>
        rw [hs] at ut
        obtain ⟨n, g, m, rfl, rfl, rfl⟩ := three hs
        have hn := ok.sz n _ rfl
        have a3 : ms_trader_word_4 (E (.tup [.str n, .str g, .int m]) (some (.str n)) (some (.str g)) (some (.int m))) st = some (.nx (E (.tup [.str n, .str g, .int m]) (some (.str n)) (some (.str g)) (some (.int m))), st) := by
          unfold ms_trader_word_4
          exact (mIfS_f ut).trans rfl
        refine (mSeq_nx a3).trans ?_
        have v1 : (mT (mCb m_is_name (mCons (mV 3) mNil))) (E (.tup [.str n, .str g, .int m]) (some (.str n)) (some (.str g)) (some (.int m))) st = some (isName n, st) := by
          refine mT_bl ?_
          unfold mCb mCons mNil
          dsimp only [E]
          rw [mV_at (i := 3) rfl, b_some]
          exact name_eq hn st
        rw [rowW_s]
        cases hnm : isName n with
        | false =>
          rw [hnm] at v1
          rw [if_pos rfl]
          refine mSeq_rt ?_
          unfold ms_trader_word_6
          exact (mIfS_t (notB v1)).trans rfl
        | true =>
          rw [hnm] at v1
          rw [if_neg (by decide)]
          refine (mSeq_nx (en' := E (.tup [.str n, .str g, .int m]) (some (.str n)) (some (.str g)) (some (.int m))) (st' := st) (by unfold ms_trader_word_6; exact (mIfS_f (notB v1)).trans rfl)).trans ?_
          have w1 : (mAnd (mTB (mOp (fIsN true) (mV 2) (mC .non))) (mNot (mTB (mOp fLt (mV 2) (mV 3))))) (E (.tup [.str n, .str g, .int m]) (some (.str n)) (some (.str g)) (some (.int m))) st = some (ordB ah n, st) := by
            cases ah with
            | none => rfl
            | some a => rfl
          cases ho : ordB ah n with
          | true =>
            rw [ho] at w1
            rw [if_pos rfl]
            exact mSeq_rt ((mIfS_t w1).trans rfl)
          | false =>
            rw [ho] at w1
            rw [if_neg (by decide)]
            refine (mSeq_nx ((mIfS_f w1).trans rfl)).trans ?_
            have x1 : (mTB (mOp (fIn true) (mV 4) (mOp fIx (mV 0) (mC (.int 0))))) (E (.tup [.str n, .str g, .int m]) (some (.str n)) (some (.str g)) (some (.int m))) st = some (!decide (g ∈ gs), st) := by
              unfold mTB mOp mC
              dsimp only [E]
              rw [mV_at (i := 4) rfl, b_some, mV_at (i := 0) rfl, b_some, b_some]
              dsimp only
              rw [fIx, look_tup, b_some, atI_0, m_some, b_some, fIn_strs true g gs (look_tup _ _)]
              rfl
            by_cases hg : g ∈ gs
            rotate_left
            · rw [if_pos hg]
              rw [decide_eq_false hg] at x1
              exact mSeq_rt ((mIfS_t x1).trans rfl)
            · rw [if_neg (fun h => h hg)]
              rw [decide_eq_true hg] at x1
              refine (mSeq_nx ((mIfS_f x1).trans rfl)).trans ?_
              dsimp only [E]
              by_cases hm : m < 0
              · rw [if_pos hm]
                walk_at "ev"
                rw [if_pos hm]
                rfl
              · rw [if_neg hm]
                walk_at "ev"
                rw [if_neg hm]
                rfl
end K21


namespace K21
open PySem PySem.Spec PyProof.Rows L2 My
local macro_rules | `(tactic| walk_at "ev") => `(tactic| try simp only [mDef, mSeq, mAsg, mV_eq, mC, mOp, mUn, mCb, mNil, mCons, mTup, mIfS, mTB, mT, mRet, mNext, mgTup, mgCons, mgNil, mgT, mgName, setTg, setTgs, mIf, mAnd, mOr, mNot, mAndV, mOrV, mNotV, fB, fLt_int, fLe, fGt, fGe, fAdd_int, fSub_int, fMod_int, fDiv_int, fMul_int, fNeg_int, fIn_tup, fIn_lst, settle_same, fIx, look_tup, look_d, look_lst, look_fro, lookL_lst, atI_0, atI_1, atI_2, atI_3, fLen_tup, fLen_lst, miSeq, srcOf, mPar, mAug, mRetN, fTuple_lst, fTuple_tup, alloc_f, fEq_int, fMaxL_2, fMinL_2, fSorted_ints, fIsN_int, fIsN_non, fNe_int, mDrop, wipeE, mYes, My.isNon, miRng1, miRng2, fInt_int, truD, fShl_int, fPow_int, fAbs_int, fEq_bl, fIsi_tt, fIsi_it, fIsi_ii, fIsi_ib, fIsi_bt, fIsi_bi, fIsi_bb, fIsi_tb, fIsi_ti, last_concat, List.dropLast_concat, look_loc, lookL_loc, fLen_loc, ixN_0, ixN_1, ixN_2, ixN_3, fSetL_loc, fAppend_loc, fPop_loc, fExtend_loc, mgSub, mMt, alloc_t, mFrz, mSl, mRev, mNone, mSome, mLst, fNeg, fSet_tup, fSet_lst, fInS_int, fSortS_set, fAll_lst, fAdd_tup, fEq_str, fNe_str, fIsN_str, fIsN_bl, fIsN_tup, fIsN_lst, fIsi_si, fIsi_ss, fIsi_sb, fIsi_st, fIsi_ts, fIsB_non, fIsB_int, fIsB_str, fIsB_tup, fIsB_bl, fAdd_str, fTuple_loc, fLen_fro, mNotT, mCV, mBreak, mCont, z0, z1, z2, z3, z4, z5, z6, z7, z8, z9, List.lookup_cons,
  b_some, b_none, m_some, Option.join_some, List.getElem?_cons_zero, List.getElem?_cons_succ, List.set_cons_zero, List.set_cons_succ, List.map_cons, List.map_nil, List.length_cons, List.length_nil, List.replicate, List.cons_append, List.nil_append, Nat.reduceAdd, Nat.reduceSub, if_true, if_false, reduceIte, reduceCtorEq, ite_bind, Bool.false_eq_true, decide_eq_true_eq, List.length_map, decide_true, decide_false, Bool.not_true, Bool.not_false])
local macro_rules | `(tactic| walk_at "nx") => `(tactic| (refine (mSeq_nx (by (walk_at "ev"; rfl))).trans ?_))
theorem ixAt {i : Nat} {j : Int} {xs : List D} {x : D} {en : En} {st : Sto} (he : en[i]? = some (some (.tup xs))) (h : atI xs j = some x) : (mOp fIx (mV i) (mC (.int j))) en st = some (x, st) := by
  unfold mOp mC
  rw [mV_at he, b_some, b_some]
  dsimp only
  rw [fIx, look_tup, b_some, h, m_some]
def aS (ah : Option Str) : Str := ah.getD ""
abbrev ref3 (k : Int) (w : Str) : D := .tup [.str "refused", .int k, .str w]
noncomputable abbrev dueB : MS := (mSeq (ms__law_due_0)
    (mSeq (ms__law_due_2)
    (mSeq (ms__law_due_4)
    (mSeq (ms__law_due_6)
    (mSeq (mIfS (mTB (mOp (fIn true) (mOp fIx (mV 4) (mC (.int 1))) (mV 0)))
    (mRet (mTup (mCons (mC (.str "refused")) (mCons (mV 3) (mCons (mC (.str "good")) mNil)))))
    mNext)
    (mSeq (mIfS (mTB (mOp fLt (mOp fIx (mV 4) (mC (.int 2))) (mC (.int 0))))
    (mRet (mTup (mCons (mC (.str "refused")) (mCons (mV 3) (mCons (mC (.str "money")) mNil)))))
    mNext)
    (mAsg (mOp fIx (mV 4) (mC (.int 0))) (mgName 2))))))))
abbrev dF (gs : List Str) (th : D) (a : Str) (k : Nat) (r : D) : En := [some (.tup (gs.map .str)), some th, some (.str a), some (.int (k : Nat)), some r]
theorem due_row {gs : List Str} {th r : D} (ah : Option Str) (k : Nat) (hk : k = 0 ↔ ah = none) (ok : RowOk r) (st : Sto) :
    (∃ w, rowW gs ah r = some w ∧ dueB (dF gs th (aS ah) k r) st = some (.rt (ref3 k w), st)) ∨ (∃ n g m, rowW gs ah r = none ∧ r = .tup [.str n, .str g, .int m] ∧ dueB (dF gs th (aS ah) k r) st = some (.nx (dF gs th n k r), st)) := by
  have t1 : (mT (mCb fIsi (mCons (mV 4) (mCons (mC (.ty "tuple")) mNil)))) (dF gs th (aS ah) k r) st = some (isTp r, st) := isiT (mV_at rfl) (isi_t ok.pl st)
  cases htp : isTp r with
  | false =>
    refine .inl ⟨wShape, rowW_p gs ah htp, mSeq_rt ?_⟩
    unfold ms__law_due_0
    refine (mIfS_t (st1 := st) ?_).trans rfl
    have t2 := orB (y := true) (b := (mOr (mTB (mOp fNe (mCb fLen (mCons (mV 4) mNil)) (mC (.int 3)))) (mOr (mNot (mT (mCb fIsi (mCons (mOp fIx (mV 4) (mC (.int 0))) (mCons (mC (.ty "str")) mNil))))) (mNot (mT (mCb fIsi (mCons (mOp fIx (mV 4) (mC (.int 1))) (mCons (mC (.ty "str")) mNil)))))))) (notB t1) (fun h => by rw [htp] at h; cases h)
    rw [htp] at t2
    exact t2
  | true =>
    obtain ⟨xs, rfl⟩ : ∃ xs, r = .tup xs := by
      cases r with
      | tup xs => exact ⟨xs, rfl⟩
      | _ => cases htp
    have t2 : (mTB (mOp fNe (mCb fLen (mCons (mV 4) mNil)) (mC (.int 3)))) (dF gs th (aS ah) k (.tup xs)) st = some (decide (xs.length ≠ 3), st) := by
      walk_at "ev"
      congr 2
      by_cases h : xs.length = 3 <;> simp [h] <;> omega
    by_cases h3 : xs.length = 3
    rotate_left
    · refine .inl ⟨wShape, rowW_n gs ah h3, mSeq_rt ?_⟩
      unfold ms__law_due_0
      refine (mIfS_t (st1 := st) ?_).trans rfl
      have tst := orB (notB t1) (fun _ => orB (y := true) (b := (mOr (mNot (mT (mCb fIsi (mCons (mOp fIx (mV 4) (mC (.int 0))) (mCons (mC (.ty "str")) mNil))))) (mNot (mT (mCb fIsi (mCons (mOp fIx (mV 4) (mC (.int 1))) (mCons (mC (.ty "str")) mNil))))))) t2 (fun h => absurd h3 (of_decide_eq_false h)))
      rw [htp, decide_eq_true h3] at tst
      exact tst
    · obtain ⟨a, b, c, rfl⟩ := len3 h3
      have pa : pl a = true := ok.el _ rfl a (by simp)
      have pb : pl b = true := ok.el _ rfl b (by simp)
      have pc : pl c = true := ok.el _ rfl c (by simp)
      have u1 : (mT (mCb fIsi (mCons (mOp fIx (mV 4) (mC (.int 0))) (mCons (mC (.ty "str")) mNil)))) (dF gs th (aS ah) k (.tup [a, b, c])) st = some (isSt a, st) := isiT (ixAt rfl (atI_0 _ _)) (isi_s pa st)
      have u2 : (mT (mCb fIsi (mCons (mOp fIx (mV 4) (mC (.int 1))) (mCons (mC (.ty "str")) mNil)))) (dF gs th (aS ah) k (.tup [a, b, c])) st = some (isSt b, st) := isiT (ixAt rfl (atI_1 _ _ _)) (isi_s pb st)
      have tst := orB (notB t1) (fun _ => orB t2 (fun _ => orB (notB u1) (fun _ => notB u2)))
      rw [htp, decide_eq_false (fun h => h h3)] at tst
      simp only [Bool.not_true, Bool.false_or] at tst
      cases hs : (!isSt a || !isSt b) with
      | true =>
        rw [hs] at tst
        refine .inl ⟨wShape, rowW_3 gs ah (by rw [← Bool.or_assoc, hs]; rfl), mSeq_rt ?_⟩
        unfold ms__law_due_0
        exact (mIfS_t tst).trans rfl
      | false =>
        rw [hs] at tst
        have a1 : ms__law_due_0 (dF gs th (aS ah) k (.tup [a, b, c])) st = some (.nx (dF gs th (aS ah) k (.tup [a, b, c])), st) := by
          unfold ms__law_due_0
          exact (mIfS_f tst).trans rfl
        have u3 : (mT (mCb fIsi (mCons (mOp fIx (mV 4) (mC (.int 2))) (mCons (mC (.ty "int")) mNil)))) (dF gs th (aS ah) k (.tup [a, b, c])) st = some (isIB c, st) := isiT (ixAt rfl (atI_2 _ _ _ _)) (isi_i pc st)
        have u4 : (mT (mCb fIsi (mCons (mOp fIx (mV 4) (mC (.int 2))) (mCons (mC (.ty "bool")) mNil)))) (dF gs th (aS ah) k (.tup [a, b, c])) st = some (isBo c, st) := isiT (ixAt rfl (atI_2 _ _ _ _)) (isi_b pc st)
        have ut := orB (notB u3) (fun _ => u4)
        have ec : (!isIB c || isBo c) = !isIn c := by cases c <;> rfl
        rw [ec] at ut
        cases hi : isIn c with
        | false =>
          rw [hi] at ut
          refine .inl ⟨wShape, rowW_3 gs ah (by rw [hi]; simp), (mSeq_nx a1).trans (mSeq_rt ?_)⟩
          unfold ms__law_due_2
          exact (mIfS_t ut).trans rfl
        | true =>
          rw [hi] at ut
          obtain ⟨n, g, m, rfl, rfl, rfl⟩ := three (a := a) (b := b) (c := c) (by rw [← Bool.or_assoc, hs, hi]; rfl)
          have hn := ok.sz n _ rfl
          have a2 : ms__law_due_2 (dF gs th (aS ah) k (.tup [.str n, .str g, .int m])) st = some (.nx (dF gs th (aS ah) k (.tup [.str n, .str g, .int m])), st) := by
            unfold ms__law_due_2
            exact (mIfS_f ut).trans rfl
          have i0 : (mOp fIx (mV 4) (mC (.int 0))) (dF gs th (aS ah) k (.tup [.str n, .str g, .int m])) st = some (.str n, st) := ixAt rfl (atI_0 _ _)
          have i1 : (mOp fIx (mV 4) (mC (.int 1))) (dF gs th (aS ah) k (.tup [.str n, .str g, .int m])) st = some (.str g, st) := ixAt rfl (atI_1 _ _ _)
          have i2 : (mOp fIx (mV 4) (mC (.int 2))) (dF gs th (aS ah) k (.tup [.str n, .str g, .int m])) st = some (.int m, st) := ixAt rfl (atI_2 _ _ _ _)
          have v1 : (mT (mCb m__law_is_name (mCons (mOp fIx (mV 4) (mC (.int 0))) mNil))) (dF gs th (aS ah) k (.tup [.str n, .str g, .int m])) st = some (isName n, st) := by
            refine mT_bl ?_
            unfold mCb mCons mNil
            rw [i0, b_some]
            exact lname_eq hn st
          rw [rowW_s]
          cases hnm : isName n with
          | false =>
            rw [hnm] at v1
            rw [if_pos rfl]
            refine .inl ⟨wName, rfl, (mSeq_nx a1).trans ((mSeq_nx a2).trans (mSeq_rt ?_))⟩
            unfold ms__law_due_4
            exact (mIfS_t (notB v1)).trans rfl
          | true =>
            rw [hnm] at v1
            rw [if_neg (by decide)]
            have a3 : ms__law_due_4 (dF gs th (aS ah) k (.tup [.str n, .str g, .int m])) st = some (.nx (dF gs th (aS ah) k (.tup [.str n, .str g, .int m])), st) := by
              unfold ms__law_due_4
              exact (mIfS_f (notB v1)).trans rfl
            have w1 : (mAnd (mTB (mOp fGt (mV 3) (mC (.int 0)))) (mTB (mOp fLeA (mOp fIx (mV 4) (mC (.int 0))) (mV 2)))) (dF gs th (aS ah) k (.tup [.str n, .str g, .int m])) st = some (ordB ah n, st) := by
              have g1 : (mTB (mOp fGt (mV 3) (mC (.int 0)))) (dF gs th (aS ah) k (.tup [.str n, .str g, .int m])) st = some (decide ((0 : Int) < (k : Nat)), st) := by
                walk_at "ev"
              have g2 : (mTB (mOp fLeA (mOp fIx (mV 4) (mC (.int 0))) (mV 2))) (dF gs th (aS ah) k (.tup [.str n, .str g, .int m])) st = some (!decide (ltS (aS ah) n), st) := by
                unfold mTB mOp
                have i0 := i0
                unfold mOp at i0
                rw [i0, b_some, mV_at (i := 2) rfl, b_some]
                rfl
              have g3 := andB g1 (fun _ => g2)
              rw [g3]
              cases ah with
              | none =>
                have : k = 0 := hk.mpr rfl
                rw [decide_eq_false (by omega)]
                rfl
              | some a =>
                have : k ≠ 0 := fun z => by cases hk.mp z
                rw [decide_eq_true (by omega)]
                rfl
            cases ho : ordB ah n with
            | true =>
              rw [ho] at w1
              rw [if_pos rfl]
              refine .inl ⟨wOrder, rfl, (mSeq_nx a1).trans ((mSeq_nx a2).trans ((mSeq_nx a3).trans (mSeq_rt ?_)))⟩
              unfold ms__law_due_6
              exact (mIfS_t w1).trans rfl
            | false =>
              rw [ho] at w1
              rw [if_neg (by decide)]
              have a4 : ms__law_due_6 (dF gs th (aS ah) k (.tup [.str n, .str g, .int m])) st = some (.nx (dF gs th (aS ah) k (.tup [.str n, .str g, .int m])), st) := by
                unfold ms__law_due_6
                exact (mIfS_f w1).trans rfl
              have x1 : (mTB (mOp (fIn true) (mOp fIx (mV 4) (mC (.int 1))) (mV 0))) (dF gs th (aS ah) k (.tup [.str n, .str g, .int m])) st = some (!decide (g ∈ gs), st) := by
                have i1 := i1
                unfold mTB
                rw [show (mOp (fIn true) (mOp fIx (mV 4) (mC (.int 1))) (mV 0)) (dF gs th (aS ah) k (.tup [.str n, .str g, .int m])) st = fIn true (.str g) (.tup (gs.map .str)) st from by
                  unfold mOp at i1 ⊢
                  rw [i1, b_some, mV_at (i := 0) rfl, b_some]]
                rw [fIn_strs true g gs (look_tup _ _)]
                rfl
              by_cases hg : g ∈ gs
              rotate_left
              · rw [if_pos hg]
                rw [decide_eq_false hg] at x1
                exact .inl ⟨wGood, rfl, (mSeq_nx a1).trans ((mSeq_nx a2).trans ((mSeq_nx a3).trans ((mSeq_nx a4).trans (mSeq_rt ((mIfS_t x1).trans rfl)))))⟩
              · rw [if_neg (fun h => h hg)]
                rw [decide_eq_true hg] at x1
                have y1 : (mTB (mOp fLt (mOp fIx (mV 4) (mC (.int 2))) (mC (.int 0)))) (dF gs th (aS ah) k (.tup [.str n, .str g, .int m])) st = some (decide (m < 0), st) := by
                  have i2 := i2
                  unfold mTB
                  rw [show (mOp fLt (mOp fIx (mV 4) (mC (.int 2))) (mC (.int 0))) (dF gs th (aS ah) k (.tup [.str n, .str g, .int m])) st = fLt (.int m) (.int 0) st from by
                    unfold mOp at i2 ⊢
                    rw [i2, b_some]
                    rfl]
                  rfl
                by_cases hm : m < 0
                · rw [if_pos hm]
                  rw [decide_eq_true hm] at y1
                  exact .inl ⟨wMoney, rfl, (mSeq_nx a1).trans ((mSeq_nx a2).trans ((mSeq_nx a3).trans ((mSeq_nx a4).trans ((mSeq_nx ((mIfS_f x1).trans rfl)).trans (mSeq_rt ((mIfS_t y1).trans rfl))))))⟩
                · rw [if_neg hm]
                  rw [decide_eq_false hm] at y1
                  refine .inr ⟨n, g, m, rfl, rfl, (mSeq_nx a1).trans ((mSeq_nx a2).trans ((mSeq_nx a3).trans ((mSeq_nx a4).trans ((mSeq_nx ((mIfS_f x1).trans rfl)).trans ((mSeq_nx ((mIfS_f y1).trans rfl)).trans ?_)))))⟩
                  unfold mAsg
                  rw [i0]
                  rfl
end K21


namespace K21
open PySem PySem.Spec PyProof.Rows L2 My
local macro_rules | `(tactic| walk_at "ev") => `(tactic| try simp only [mDef, mSeq, mAsg, mV_eq, mC, mOp, mUn, mCb, mNil, mCons, mTup, mIfS, mTB, mT, mRet, mNext, mgTup, mgCons, mgNil, mgT, mgName, setTg, setTgs, mIf, mAnd, mOr, mNot, mAndV, mOrV, mNotV, fB, fLt_int, fLe, fGt, fGe, fAdd_int, fSub_int, fMod_int, fDiv_int, fMul_int, fNeg_int, fIn_tup, fIn_lst, settle_same, fIx, look_tup, look_d, look_lst, look_fro, lookL_lst, atI_0, atI_1, atI_2, atI_3, fLen_tup, fLen_lst, miSeq, srcOf, mPar, mAug, mRetN, fTuple_lst, fTuple_tup, alloc_f, fEq_int, fMaxL_2, fMinL_2, fSorted_ints, fIsN_int, fIsN_non, fNe_int, mDrop, wipeE, mYes, My.isNon, miRng1, miRng2, fInt_int, truD, fShl_int, fPow_int, fAbs_int, fEq_bl, fIsi_tt, fIsi_it, fIsi_ii, fIsi_ib, fIsi_bt, fIsi_bi, fIsi_bb, fIsi_tb, fIsi_ti, last_concat, List.dropLast_concat, look_loc, lookL_loc, fLen_loc, ixN_0, ixN_1, ixN_2, ixN_3, fSetL_loc, fAppend_loc, fPop_loc, fExtend_loc, mgSub, mMt, alloc_t, mFrz, mSl, mRev, mNone, mSome, mLst, fNeg, fSet_tup, fSet_lst, fInS_int, fSortS_set, fAll_lst, fAdd_tup, fEq_str, fNe_str, fIsN_str, fIsN_bl, fIsN_tup, fIsN_lst, fIsi_si, fIsi_ss, fIsi_sb, fIsi_st, fIsi_ts, fIsB_non, fIsB_int, fIsB_str, fIsB_tup, fIsB_bl, fAdd_str, fTuple_loc, fLen_fro, mNotT, mCV, mBreak, mCont, z0, z1, z2, z3, z4, z5, z6, z7, z8, z9, List.lookup_cons,
  b_some, b_none, m_some, Option.join_some, List.getElem?_cons_zero, List.getElem?_cons_succ, List.set_cons_zero, List.set_cons_succ, List.map_cons, List.map_nil, List.length_cons, List.length_nil, List.replicate, List.cons_append, List.nil_append, Nat.reduceAdd, Nat.reduceSub, if_true, if_false, reduceIte, reduceCtorEq, ite_bind, Bool.false_eq_true, decide_eq_true_eq, List.length_map, decide_true, decide_false, Bool.not_true, Bool.not_false])
local macro_rules | `(tactic| walk_at "nx") => `(tactic| (refine (mSeq_nx (by (walk_at "ev"; rfl))).trans ?_))
/-- the first row that is wrong, and its word -/
def fairL (gs : List Str) : Nat → Option Str → List D → Option (Nat × Str)
  | _, _, [] => none
  | k, ah, r :: rs => match rowW gs ah r with
    | some w => some (k, w)
    | none => match tri r with
      | some (n, _, _) => fairL gs (k + 1) (some n) rs
      | none => none
def exF (j : Int) (w : Str) : Ex := ⟨"BadFair", [("word", .str w), ("number", .int j)]⟩
def resD (gs : List Str) : D → D
  | .tup rows => match fairL gs 0 none rows with
    | none => .tup [.str "told", .int rows.length]
    | some (j, w) => ref3 (j : Nat) w
  | _ => ref3 (-1) wShape
theorem resD_p (gs : List Str) {t : D} (h : isTp t = false) : resD gs t = ref3 (-1) wShape := by
  cases t with
  | tup xs => cases h
  | _ => rfl
theorem resD_t (gs : List Str) (rows : List D) : resD gs (.tup rows) = match fairL gs 0 none rows with
    | none => .tup [.str "told", .int rows.length]
    | some (j, w) => ref3 (j : Nat) w := rfl
structure ThOk (t : D) : Prop where
  pl : pl t = true
  el : ∀ xs, t = .tup xs → ∀ x ∈ xs, RowOk x
/-! ### check_fair -/
noncomputable abbrev cfB : MSx := (seqX (lS (ms_check_fair_0))
    (seqX (ifX (mTB (mOp (fIsN true) (mV 5) (mC .non)))
    (mRaise "BadFair" ["number", "word"] (mCons (mV 3) (mCons (mV 5) mNil)))
    (lS mNext))
    (lS (mAsg (mOp fIx (mV 4) (mC (.int 0))) (mgName 2)))))
abbrev cF (gs : List Str) (S O th : D) (ah : Option Str) (w3 w4 w5 : Option D) : En := [some (mk gs S O), some th, some (oS ah), w3, w4, w5]
theorem rowW_tri {gs : List Str} {ah : Option Str} {r : D} (h : rowW gs ah r = none) : ∃ n g m, r = .tup [.str n, .str g, .int m] := by
  cases ht : isTp r with
  | false => rw [rowW_p gs ah ht] at h; cases h
  | true =>
    cases r with
    | tup xs =>
      by_cases h3 : xs.length = 3
      · obtain ⟨a, b, c, rfl⟩ := len3 h3
        cases hs : (!isSt a || (!isSt b || !isIn c)) with
        | true => rw [rowW_3 gs ah hs] at h; cases h
        | false =>
          obtain ⟨n, g, m, rfl, rfl, rfl⟩ := three hs
          exact ⟨n, g, m, rfl⟩
      · rw [rowW_n gs ah h3] at h; cases h
    | _ => cases ht
theorem cf_loop {gs : List Str} {S O th : D} (all : List D) (st : Sto) : ∀ (rs : List D) (k : Nat) (ah : Option Str) (w3 w4 w5 : Option D), (∀ r ∈ rs, RowOk r) → ∃ ah' w3' w4' w5',
    forLX ⟨all, none⟩ (.tup [(.name 3), (.name 4)]) cfB ((rs.zipIdx k).map fun p => D.tup [.int (p.2 : Nat), p.1]) (cF gs S O th ah w3 w4 w5) st
      = some (match fairL gs k ah rs with
        | none => .o (.nx (cF gs S O th ah' w3' w4' w5'))
        | some (j, w) => .ex (cF gs S O th ah' w3' w4' w5') (exF (j : Nat) w), st)
  | [], k, ah, w3, w4, w5, _ => ⟨ah, w3, w4, w5, forLX_nil trivial⟩
  | r :: rs, k, ah, w3, w4, w5, h => by
    have a1 : ms_check_fair_0 (cF gs S O th ah (some (.int (k : Nat))) (some r) w5) st = some (.nx (cF gs S O th ah (some (.int (k : Nat))) (some r) (some (oS (rowW gs ah r)))), st) := by
      unfold ms_check_fair_0
      have e := trader_eq (gs := gs) (S := S) (O := O) ah (h r (List.mem_cons_self)) st
      unfold mAsg mCb mCons mNil
      rw [mV_at (i := 0) rfl, b_some, mV_at (i := 4) rfl, b_some, mV_at (i := 2) rfl, b_some]
      show (Option.bind (Option.bind (some ([mk gs S O, r, oS ah], st)) _) _) = _
      rw [b_some, e, b_some]
      rfl
    cases hw : rowW gs ah r with
    | some w =>
      rw [hw] at a1
      have ef : fairL gs k ah (r :: rs) = some (k, w) := by unfold fairL; rw [hw]
      rw [ef]
      refine ⟨ah, _, _, _, forLX_ex (en' := cF gs S O th ah (some (.int (k : Nat))) (some r) w5) (en2 := cF gs S O th ah (some (.int (k : Nat))) (some r) (some (.str w))) trivial rfl ?_⟩
      refine (seqX_nx (lS_o a1)).trans (seqX_ex ?_)
      refine (ifX_t (st1 := st) ?_).trans ?_
      · rfl
      · rfl
    | none =>
      rw [hw] at a1
      obtain ⟨n, g, m, rfl⟩ := rowW_tri hw
      have ef : fairL gs k ah (.tup [.str n, .str g, .int m] :: rs) = fairL gs (k + 1) (some n) rs := by
        conv => lhs; unfold fairL
        rw [hw]
        rfl
      rw [ef]
      obtain ⟨ah', u3, u4, u5, ih⟩ := cf_loop (gs := gs) (S := S) (O := O) (th := th) all st rs (k + 1) (some n) (some (.int (k : Nat))) (some (.tup [.str n, .str g, .int m])) (some .non) (fun r hr => h r (List.mem_cons_of_mem _ hr))
      refine ⟨ah', u3, u4, u5, ?_⟩
      rw [← ih]
      refine forLX_nx (en' := cF gs S O th ah (some (.int (k : Nat))) (some (.tup [.str n, .str g, .int m])) w5) trivial rfl ?_
      refine (seqX_nx (lS_o a1)).trans ((seqX_nx (en' := cF gs S O th ah (some (.int (k : Nat))) (some (.tup [.str n, .str g, .int m])) (some .non)) (st' := st) ?_).trans (lS_o ?_))
      · exact (ifX_f (st1 := st) rfl).trans rfl
      · rfl
theorem enumD_eq (xs : List D) : enumD xs = (xs.zipIdx 0).map fun p => D.tup [.int (p.2 : Nat), p.1] := rfl
theorem checked_eq {gs : List Str} {S O t : D} (ok : ThOk t) (st : Sto) : m__law_checked [mk gs S O, t] st = some (resD gs t, st) := by
  let F : Option D → Option D → En := fun e v => [some (mk gs S O), some t, e, v]
  have hx : ∀ en, callX mx_check_fair (consX (lE (mV 0)) (consX (lE (mV 1)) nilX)) (F none en) st = mx_check_fair [mk gs S O, t] st := fun en =>
    callX_of (consX_of (lE_o (mV_at rfl)) (consX_of (lE_o (mV_at rfl)) nilX_of))
  have t1 : (mT (mCb fIsi (mCons (mV 1) (mCons (mC (.ty "tuple")) mNil)))) (cF gs S O t none none none none) st = some (isTp t, st) := isiT (mV_at rfl) (isi_t ok.pl st)
  have start : (([mk gs S O, t].map some ++ List.replicate (6 - [mk gs S O, t].length) none : En)) = [some (mk gs S O), some t, none, none, none, none] := rfl
  have t0 : (mT (mCb fIsi (mCons (mV 1) (mCons (mC (.ty "tuple")) mNil)))) [some (mk gs S O), some t, none, none, none, none] st = some (isTp t, st) := isiT (mV_at rfl) (isi_t ok.pl st)
  have key : (∃ d : D, clo st.length d = true ∧ resD gs t = .tup [.str "told", d] ∧ mx_check_fair [mk gs S O, t] st = some (.ok d, st)) ∨ ∃ (j : Int) (w : Str), resD gs t = ref3 j w ∧ mx_check_fair [mk gs S O, t] st = some (.ex (exF j w), st) := by
    cases htp : isTp t with
    | false =>
      rw [htp] at t0
      refine .inr ⟨-1, wShape, resD_p gs htp, mDefX_ex (en' := [some (mk gs S O), some t, none, none, none, none]) rfl (seqX_ex ?_) rfl ⟨[], (List.append_nil _).symm⟩⟩
      exact (ifX_t (notB t0)).trans rfl
    | true =>
      rw [htp] at t0
      obtain ⟨rows, rfl⟩ : ∃ rows, t = .tup rows := by
        cases t with
        | tup xs => exact ⟨xs, rfl⟩
        | _ => cases htp
      obtain ⟨ah', w3, w4, w5, lp⟩ := cf_loop (gs := gs) (S := S) (O := O) (th := .tup rows) (enumD rows) st rows 0 none none none none (ok.el rows rfl)
      have hm : miEnumA (mCons (mV 1) mNil) (cF gs S O (.tup rows) none none none none) st = some (⟨enumD rows, none⟩, st) := rfl
      have p1 : (ifX (mNot (mT (mCb fIsi (mCons (mV 1) (mCons (mC (.ty "tuple")) mNil))))) (mRaise "BadFair" ["number", "word"] (mCons (mUn fNeg (mC (.int 1))) (mCons (mC (.str "shape")) mNil))) (lS mNext)) [some (mk gs S O), some (.tup rows), none, none, none, none] st = some (.o (.nx [some (mk gs S O), some (.tup rows), none, none, none, none]), st) := (ifX_f (notB t0)).trans rfl
      have p2 : (lS (mAsg (mC .non) (mgName 2))) [some (mk gs S O), some (.tup rows), none, none, none, none] st = some (.o (.nx (cF gs S O (.tup rows) none none none none)), st) := rfl
      have p3 := (forX_of (T := .tup [(.name 3), (.name 4)]) (b := cfB) hm).trans lp
      cases hf : fairL gs 0 none rows with
      | none =>
        rw [hf] at p3
        refine .inl ⟨.int rows.length, rfl, by rw [resD_t, hf], mDefX_ext (st' := st) rfl ((seqX_nx p1).trans ((seqX_nx p2).trans ((seqX_nx p3).trans ?_))) rfl ⟨[], (List.append_nil _).symm⟩⟩
        exact lS_o rfl
      | some jw =>
        obtain ⟨j, w⟩ := jw
        rw [hf] at p3
        refine .inr ⟨(j : Nat), w, by rw [resD_t, hf], mDefX_ex (en' := cF gs S O (.tup rows) ah' w3 w4 w5) rfl ((seqX_nx p1).trans ((seqX_nx p2).trans (seqX_ex p3))) rfl ⟨[], (List.append_nil _).symm⟩⟩
  refine mDef_rt rfl ?_
  rcases key with ⟨d, _, h1, h2⟩ | ⟨j, w, h1, h2⟩
  · rw [h1]
    refine (mSeq_nx (en' := F none (some d)) (st' := st) ?_).trans rfl
    unfold ms__law_checked_0
    refine tryX_o ?_
    unfold asgX
    rw [show callX mx_check_fair (consX (lE (mV 0)) (consX (lE (mV 1)) nilX)) (List.map some [mk gs S O, t] ++ List.replicate (4 - [mk gs S O, t].length) none) st = some (.ok d, st) from (hx none).trans h2]
    rfl
  · rw [h1]
    refine mSeq_rt ?_
    unfold ms__law_checked_0
    refine tryX_ex (en' := F none none) (x := exF j w) (st1 := st) ?_ ?_
    · unfold asgX
      rw [show callX mx_check_fair (consX (lE (mV 0)) (consX (lE (mV 1)) nilX)) (List.map some [mk gs S O, t] ++ List.replicate (4 - [mk gs S O, t].length) none) st = some (.ex (exF j w), st) from (hx none).trans h2]
      rfl
    · rfl
end K21


namespace K21
open PySem PySem.Spec PyProof.Rows L2 My
local macro_rules | `(tactic| walk_at "ev") => `(tactic| try simp only [mDef, mSeq, mAsg, mV_eq, mC, mOp, mUn, mCb, mNil, mCons, mTup, mIfS, mTB, mT, mRet, mNext, mgTup, mgCons, mgNil, mgT, mgName, setTg, setTgs, mIf, mAnd, mOr, mNot, mAndV, mOrV, mNotV, fB, fLt_int, fLe, fGt, fGe, fAdd_int, fSub_int, fMod_int, fDiv_int, fMul_int, fNeg_int, fIn_tup, fIn_lst, settle_same, fIx, look_tup, look_d, look_lst, look_fro, lookL_lst, atI_0, atI_1, atI_2, atI_3, fLen_tup, fLen_lst, miSeq, srcOf, mPar, mAug, mRetN, fTuple_lst, fTuple_tup, alloc_f, fEq_int, fMaxL_2, fMinL_2, fSorted_ints, fIsN_int, fIsN_non, fNe_int, mDrop, wipeE, mYes, My.isNon, miRng1, miRng2, fInt_int, truD, fShl_int, fPow_int, fAbs_int, fEq_bl, fIsi_tt, fIsi_it, fIsi_ii, fIsi_ib, fIsi_bt, fIsi_bi, fIsi_bb, fIsi_tb, fIsi_ti, last_concat, List.dropLast_concat, look_loc, lookL_loc, fLen_loc, ixN_0, ixN_1, ixN_2, ixN_3, fSetL_loc, fAppend_loc, fPop_loc, fExtend_loc, mgSub, mMt, alloc_t, mFrz, mSl, mRev, mNone, mSome, mLst, fNeg, fSet_tup, fSet_lst, fInS_int, fSortS_set, fAll_lst, fAdd_tup, fEq_str, fNe_str, fIsN_str, fIsN_bl, fIsN_tup, fIsN_lst, fIsi_si, fIsi_ss, fIsi_sb, fIsi_st, fIsi_ts, fIsB_non, fIsB_int, fIsB_str, fIsB_tup, fIsB_bl, fAdd_str, fTuple_loc, fLen_fro, mNotT, mCV, mBreak, mCont, z0, z1, z2, z3, z4, z5, z6, z7, z8, z9, List.lookup_cons,
  b_some, b_none, m_some, Option.join_some, List.getElem?_cons_zero, List.getElem?_cons_succ, List.set_cons_zero, List.set_cons_succ, List.map_cons, List.map_nil, List.length_cons, List.length_nil, List.replicate, List.cons_append, List.nil_append, Nat.reduceAdd, Nat.reduceSub, if_true, if_false, reduceIte, reduceCtorEq, ite_bind, Bool.false_eq_true, decide_eq_true_eq, List.length_map, decide_true, decide_false, Bool.not_true, Bool.not_false])
local macro_rules | `(tactic| walk_at "nx") => `(tactic| (refine (mSeq_nx (by (walk_at "ev"; rfl))).trans ?_))
theorem due_loop {gs : List Str} {th : D} (all : List D) (st : Sto) : ∀ (rs : List D) (k : Nat) (ah : Option Str) (w3 w4 : Option D), (k = 0 ↔ ah = none) → (∀ r ∈ rs, RowOk r) →
    (fairL gs k ah rs = none ∧ ∃ en, forL ⟨all, none⟩ (.tup [(.name 3), (.name 4)]) dueB ((rs.zipIdx k).map fun p => D.tup [.int (p.2 : Nat), p.1]) [some (.tup (gs.map .str)), some th, some (.str (aS ah)), w3, w4] st = some (.nx en, st) ∧ en[1]? = some (some th)) ∨
    ∃ j w, fairL gs k ah rs = some (j, w) ∧ forL ⟨all, none⟩ (.tup [(.name 3), (.name 4)]) dueB ((rs.zipIdx k).map fun p => D.tup [.int (p.2 : Nat), p.1]) [some (.tup (gs.map .str)), some th, some (.str (aS ah)), w3, w4] st = some (.rt (ref3 (j : Nat) w), st)
  | [], k, ah, w3, w4, _, _ => .inl ⟨rfl, _, forL_nil trivial, rfl⟩
  | r :: rs, k, ah, w3, w4, hk, h => by
    rcases due_row (gs := gs) (th := th) ah k hk (h r (List.mem_cons_self)) st with ⟨w, h1, h2⟩ | ⟨n, g, m, h1, rfl, h2⟩
    · refine .inr ⟨k, w, by unfold fairL; rw [h1], forL_rt (en' := dF gs th (aS ah) k r) trivial rfl h2⟩
    · have ef : fairL gs k ah (.tup [.str n, .str g, .int m] :: rs) = fairL gs (k + 1) (some n) rs := by
        conv => lhs; unfold fairL
        rw [h1]
        rfl
      have es := forL_nx (s := ⟨all, none⟩) (T := .tup [(.name 3), (.name 4)]) (b := dueB) (d := D.tup [.int (k : Nat), .tup [.str n, .str g, .int m]]) (r := (rs.zipIdx (k + 1)).map fun p => D.tup [.int (p.2 : Nat), p.1]) (en := [some (.tup (gs.map .str)), some th, some (.str (aS ah)), w3, w4]) (en' := dF gs th (aS ah) k (.tup [.str n, .str g, .int m])) trivial rfl h2
      rw [ef]
      have ih := due_loop (gs := gs) (th := th) all st rs (k + 1) (some n) (some (.int (k : Nat))) (some (.tup [.str n, .str g, .int m])) (by constructor <;> intro z <;> simp at z) (fun r hr => h r (List.mem_cons_of_mem _ hr))
      rcases ih with ⟨i1, en, i2, i3⟩ | ⟨j, w, i1, i2⟩
      · exact .inl ⟨i1, en, es.trans i2, i3⟩
      · exact .inr ⟨j, w, i1, es.trans i2⟩
theorem due_eq {gs : List Str} {t : D} (ok : ThOk t) (st : Sto) : m__law_due [.tup (gs.map .str), t] st = some (resD gs t, st) := by
  refine mDef_rt rfl ?_
  have t0 : (mT (mCb fIsi (mCons (mV 1) (mCons (mC (.ty "tuple")) mNil)))) [some (.tup (gs.map .str)), some t, none, none, none] st = some (isTp t, st) := isiT (mV_at rfl) (isi_t ok.pl st)
  cases htp : isTp t with
  | false =>
    rw [htp] at t0
    rw [resD_p gs htp]
    refine mSeq_rt ?_
    unfold ms__law_due_8
    exact (mIfS_t (notB t0)).trans rfl
  | true =>
    rw [htp] at t0
    obtain ⟨rows, rfl⟩ : ∃ rows, t = .tup rows := by
      cases t with
      | tup xs => exact ⟨xs, rfl⟩
      | _ => cases htp
    have a1 : ms__law_due_8 [some (.tup (gs.map .str)), some (.tup rows), none, none, none] st = some (.nx [some (.tup (gs.map .str)), some (.tup rows), none, none, none], st) := by
      unfold ms__law_due_8
      exact (mIfS_f (notB t0)).trans rfl
    have a2 : (mAsg (mC (.str "")) (mgName 2)) [some (.tup (gs.map .str)), some (.tup rows), none, none, none] st = some (.nx [some (.tup (gs.map .str)), some (.tup rows), some (.str (aS none)), none, none], st) := rfl
    have hm : miEnumA (mCons (mV 1) mNil) [some (.tup (gs.map .str)), some (.tup rows), some (.str (aS none)), none, none] st = some (⟨enumD rows, none⟩, st) := rfl
    have lp := due_loop (gs := gs) (th := .tup rows) (enumD rows) st rows 0 none none none (by simp) (ok.el rows rfl)
    refine (mSeq_nx a1).trans ((mSeq_nx a2).trans ?_)
    rcases lp with ⟨h1, en, h2, h3⟩ | ⟨j, w, h1, h2⟩
    · have a3 := (forL_of (T := .tup [(.name 3), (.name 4)]) (b := dueB) hm).trans h2
      refine (mSeq_nx (by unfold ms__law_due_10; exact a3)).trans ?_
      rw [resD_t, h1]
      unfold mRet mTup mCons mCb mNil mC
      rw [b_some]
      simp only [mV_at h3, b_some, mCons, mNil, fLen_tup]
      rw [if_pos (szle (by simp))]
      rfl
    · have a3 := (forL_of (T := .tup [(.name 3), (.name 4)]) (b := dueB) hm).trans h2
      rw [resD_t, h1]
      exact mSeq_rt (by unfold ms__law_due_10; exact a3)
theorem Ps.res (gs : List Str) (t : D) : Ps 1 (resD gs t) := by
  have three : ∀ (j : Int) (w : Str), Ps 1 (ref3 j w) := fun j w => .tup 0 _ fun d hd => by
    simp only [List.mem_cons, List.not_mem_nil, or_false] at hd
    rcases hd with rfl | rfl | rfl
    · exact .str 0 _
    · exact .int 0 _
    · exact .str 0 _
  cases t with
  | tup rows =>
    rw [resD_t]
    split
    · exact .tup 0 _ fun d hd => by
        simp only [List.mem_cons, List.not_mem_nil, or_false] at hd
        rcases hd with rfl | rfl
        · exact .str 0 _
        · exact .int 0 _
    · exact three _ _
  | _ => exact three _ _
end K21


namespace K21
open PySem PySem.Spec PyProof.Rows L2 My
local macro_rules | `(tactic| walk_at "ev") => `(tactic| try simp only [mDef, mSeq, mAsg, mV_eq, mC, mOp, mUn, mCb, mNil, mCons, mTup, mIfS, mTB, mT, mRet, mNext, mgTup, mgCons, mgNil, mgT, mgName, setTg, setTgs, mIf, mAnd, mOr, mNot, mAndV, mOrV, mNotV, fB, fLt_int, fLe, fGt, fGe, fAdd_int, fSub_int, fMod_int, fDiv_int, fMul_int, fNeg_int, fIn_tup, fIn_lst, settle_same, fIx, look_tup, look_d, look_lst, look_fro, lookL_lst, atI_0, atI_1, atI_2, atI_3, fLen_tup, fLen_lst, miSeq, srcOf, mPar, mAug, mRetN, fTuple_lst, fTuple_tup, alloc_f, fEq_int, fMaxL_2, fMinL_2, fSorted_ints, fIsN_int, fIsN_non, fNe_int, mDrop, wipeE, mYes, My.isNon, miRng1, miRng2, fInt_int, truD, fShl_int, fPow_int, fAbs_int, fEq_bl, fIsi_tt, fIsi_it, fIsi_ii, fIsi_ib, fIsi_bt, fIsi_bi, fIsi_bb, fIsi_tb, fIsi_ti, last_concat, List.dropLast_concat, look_loc, lookL_loc, fLen_loc, ixN_0, ixN_1, ixN_2, ixN_3, fSetL_loc, fAppend_loc, fPop_loc, fExtend_loc, mgSub, mMt, alloc_t, mFrz, mSl, mRev, mNone, mSome, mLst, fNeg, fSet_tup, fSet_lst, fInS_int, fSortS_set, fAll_lst, fAdd_tup, fEq_str, fNe_str, fIsN_str, fIsN_bl, fIsN_tup, fIsN_lst, fIsi_si, fIsi_ss, fIsi_sb, fIsi_st, fIsi_ts, fIsB_non, fIsB_int, fIsB_str, fIsB_tup, fIsB_bl, fAdd_str, fTuple_loc, fLen_fro, mNotT, mCV, mBreak, mCont, z0, z1, z2, z3, z4, z5, z6, z7, z8, z9, List.lookup_cons,
  b_some, b_none, m_some, Option.join_some, List.getElem?_cons_zero, List.getElem?_cons_succ, List.set_cons_zero, List.set_cons_succ, List.map_cons, List.map_nil, List.length_cons, List.length_nil, List.replicate, List.cons_append, List.nil_append, Nat.reduceAdd, Nat.reduceSub, if_true, if_false, reduceIte, reduceCtorEq, ite_bind, Bool.false_eq_true, decide_eq_true_eq, List.length_map, decide_true, decide_false, Bool.not_true, Bool.not_false])
local macro_rules | `(tactic| walk_at "nx") => `(tactic| (refine (mSeq_nx (by (walk_at "ev"; rfl))).trans ?_))
theorem eqv_hdd (h : Str × Int) (g : Str) (m : Int) : PyData.eqv (encD (hdd h)) (encD (hd g m)) = decide (h = (g, m)) := by
  obtain ⟨a, i⟩ := h
  show PyData.eqv (.tuple [.str a, .int i]) (.tuple [.str g, .int m]) = _
  simp only [PyData.eqv, PyData.eqvAll, Bool.and_true]
  by_cases h1 : a = g <;> by_cases h2 : i = m <;> simp [h1, h2]
theorem fInD_hdd (neg : Bool) {d : D} {st : Sto} {hs : List (Str × Int)} {g : Str} {m : Int} (h : lookL d st = some (hs.map hdd)) (hx : ∀ x ∈ hs, Nm x.1) (hg : Nm g) :
    fInD neg (hd g m) d st = some (.bl (if neg then !decide ((g, m) ∈ hs) else decide ((g, m) ∈ hs)), st) := by
  obtain ⟨c1, c2⟩ := canLay_map (f := fun x => encD (hdd x)) hs (fun x m => hdd_lay (hx x m))
  have hs2 := hdd_lay (h := (g, m)) hg
  have e : toPy (hd g m) = some (encD (hd g m)) := rfl
  have any : ∀ l : List (Str × Int), (l.map fun x => encD (hdd x)).any (fun z => PyData.eqv z (encD (hd g m))) = decide ((g, m) ∈ l) := by
    intro l
    induction l with
    | nil => rfl
    | cons x l ih =>
      rw [List.map_cons, List.any_cons, ih, eqv_hdd]
      by_cases h1 : x = (g, m)
      · subst h1; simp
      · have h2 : ¬ (g, m) = x := fun z => h1 z.symm
        simp [h1, h2]
  unfold fInD
  rw [h, b_some, toPys_map (fun _ => rfl), b_some, e, b_some, if_pos, any]
  unfold SeqAt.shaped
  rw [hs2.1, PyData.canLay0, c1]
  simp only [Bool.true_and, decide_eq_true_eq]
  have h3 : (encD (hd g m)).depth ≤ 60 := hs2.2
  refine ⟨by omega, ?_⟩
  rw [PyData.depth]
  omega
theorem fInU_hdd (neg : Bool) {st : Sto} {hs : List (Str × Int)} {g : Str} {m : Int} (hx : ∀ x ∈ hs, Nm x.1) (hg : Nm g) :
    fInU neg (hd g m) (.tup (hs.map hdd)) st = some (.bl (if neg then !decide ((g, m) ∈ hs) else decide ((g, m) ∈ hs)), st) := by
  obtain ⟨c1, c2⟩ := canLay_map (f := fun x => encD (hdd x)) hs (fun x m => hdd_lay (hx x m))
  have hs2 := hdd_lay (h := (g, m)) hg
  have e : toPy (hd g m) = some (encD (hd g m)) := rfl
  have any : ∀ l : List (Str × Int), (l.map fun x => encD (hdd x)).any (fun z => PyData.eqv z (encD (hd g m))) = decide ((g, m) ∈ l) := by
    intro l
    induction l with
    | nil => rfl
    | cons x l ih =>
      rw [List.map_cons, List.any_cons, ih, eqv_hdd]
      by_cases h1 : x = (g, m)
      · subst h1; simp
      · have h2 : ¬ (g, m) = x := fun z => h1 z.symm
        simp [h1, h2]
  unfold fInU
  dsimp only
  rw [toPys_map (fun _ => rfl), b_some, e, b_some, if_pos, any]
  unfold SeqAt.shaped
  rw [hs2.1, PyData.canLay0, c1]
  simp only [Bool.true_and, decide_eq_true_eq]
  have h3 : (encD (hd g m)).depth ≤ 60 := hs2.2
  refine ⟨by omega, ?_⟩
  rw [PyData.depth]
  omega
theorem starts_loop (ns : List Int) (hn : ns.length ≤ 63) {gs : List Str} (g0 : gs ≠ []) (g1 : gs.length < 1000) (gn : ∀ g ∈ gs, Vn g) (st : Sto) : ∃ (hs : List (Str × Int)) (w3 w5 : Option D), hs ≠ [] ∧ hs.length ≤ 3 ∧ (∀ h ∈ hs, Vn h.1 ∧ h.1 ∈ gs) ∧
    ms__law_market_4 [some (scr ns), some (.lst (gs.map .str)), some (.loc st.length), none, none, none] (st ++ [.lst []]) = some (.nx [some (scr ns), some (.lst (gs.map .str)), some (.loc st.length), w3, none, w5], st ++ [.lst (hs.map hdd)]) := by
  let E : Option D → Option D → En := fun k h => [some (scr ns), some (.lst (gs.map .str)), some (.loc st.length), k, none, h]
  have gl : 0 < gs.length := List.length_pos_iff.mpr g0
  obtain ⟨m, m1, m2, m3⟩ := draw_ex ns hn (p := 2) (m := 3) (by omega) (by omega)
  have hm : miRng1 (mCons (mOp (fAdd false) (mC (.int 1)) (mCb m__law_draw (mCons (mV 0) (mCons (mC (.int 2)) (mCons (mC (.int 3)) mNil))))) mNil) (E none none) (st ++ [.lst []]) = some (⟨rngD 0 (1 + m).toNat, none⟩, st ++ [.lst []]) := by
    dsimp only [E]; walk_at "ev"
    rw [m3]
    walk_at "ev"
    rw [if_pos (small_ok (by omega))]
  obtain ⟨o, s1, b1, b2⟩ := for_inv (T := .name 3) (b := mSeq (ms__law_market_0) (mIfS (mTB (mOp (fInD true) (mV 5) (mV 2))) (mDrop (mMt fAppend (mV 2) (mCons (mV 5) mNil))) mNext)) hm
    (fun i en s => ∃ (hs : List (Str × Int)) (k h : Option D), (∀ h ∈ hs, Vn h.1 ∧ h.1 ∈ gs) ∧ hs.length ≤ i ∧ (0 < i → hs ≠ []) ∧ en = E k h ∧ s = st ++ [.lst (hs.map hdd)]) (fun _ _ => False) (fun _ _ => False) (fun _ _ _ _ => ok_none)
    ⟨[], none, none, (fun h m => absurd m List.not_mem_nil), Nat.le_refl _, fun h => absurd h (Nat.lt_irrefl 0), rfl, rfl⟩ (by
    rintro i d en s hd ⟨hs, k, h, h1, h2, h3, rfl, rfl⟩
    obtain ⟨rfl, hi⟩ := rng_get hd
    obtain ⟨x, x1, x2, x3⟩ := draw_ex ns hn (p := 60 + (0 + (i : Int))) (m := gs.length) (by omega) (by omega)
    obtain ⟨y, y1, y2, y3⟩ := draw_ex ns hn (p := 64 + (0 + (i : Int))) (m := 6) (by omega) (by omega)
    obtain ⟨g, hg, eg⟩ := pickS gs x1 x2
    obtain ⟨a, ha, ea⟩ := pick [0, 1, 2, 3, 5, 12] (v := y) y1 (by show y < ((6 : Nat) : Int); omega)
    have ea : atI [D.int 0, .int 1, .int 2, .int 3, .int 5, .int 12] y = some (.int a) := ea
    have c1 : ms__law_market_0 (E (some (.int (0 + (i : Int)))) h) (st ++ [.lst (hs.map hdd)]) = some (.nx (E (some (.int (0 + (i : Int)))) (some (hdd (g, a)))), st ++ [.lst (hs.map hdd)]) := by
      unfold ms__law_market_0
      dsimp only [E]; walk_at "ev"
      rw [x3]
      walk_at "ev"
      rw [eg]
      walk_at "ev"
      rw [y3]
      walk_at "ev"
      rw [ea]
      walk_at "ev"
    have hr := fInD_hdd true (g := g) (m := a) (look_top st (hs.map hdd)) (fun x hx => (h1 x hx).1.nm) (gn g hg).nm
    have c2 : (mTB (mOp (fInD true) (mV 5) (mV 2))) (E (some (.int (0 + (i : Int)))) (some (hdd (g, a)))) (st ++ [.lst (hs.map hdd)]) = some (!decide ((g, a) ∈ hs), st ++ [.lst (hs.map hdd)]) := by
      unfold mTB mOp
      dsimp only [E]
      rw [mV_at (i := 5) rfl, b_some, mV_at (i := 2) rfl, b_some]
      dsimp only
      rw [hr]
      rfl
    by_cases hmem : (g, a) ∈ hs
    · rw [decide_eq_true hmem] at c2
      exact ⟨_, .nx (E (some (.int (0 + (i : Int)))) (some (hdd (g, a)))), st ++ [.lst (hs.map hdd)], rfl, (mSeq_nx c1).trans ((mIfS_f c2).trans rfl), hs, _, _, h1, by omega, fun _ z => by rw [z] at hmem; exact absurd hmem List.not_mem_nil, rfl, rfl⟩
    · rw [decide_eq_false hmem] at c2
      refine ⟨_, .nx (E (some (.int (0 + (i : Int)))) (some (hdd (g, a)))), st ++ [.lst ((hs ++ [(g, a)]).map hdd)], rfl, ?_, hs ++ [(g, a)], _, _, ?_, by rw [List.length_append]; simp; omega, fun _ => by simp, rfl, rfl⟩
      · refine (mSeq_nx c1).trans ((mIfS_t c2).trans ?_)
        rw [List.map_append]
        exact app_top rfl rfl (by rw [List.length_map]; have : (rngD 0 (1 + m).toNat).length = (1 + m).toNat := by simp [rngD]
                                  omega)
      · intro z hz
        rcases List.mem_append.mp hz with hz | hz
        · exact h1 z hz
        · rw [List.mem_singleton.mp hz]
          exact ⟨gn g hg, hg⟩)
  have lr : (rngD 0 (1 + m).toNat).length = (1 + m).toNat := by simp [rngD]
  cases o with
  | nx e =>
    rcases b2 with ⟨hs, k, h, h1, h2, h3, rfl, rfl⟩ | f
    · dsimp only at h2 h3
      exact ⟨hs, k, h, h3 (by omega), by omega, h1, by unfold ms__law_market_4; exact b1⟩
    · exact f.elim
  | rt d => exact b2.elim
  | bk e => exact b2.elim
  | ct e => exact b2.elim
structure Mk (gs : List Str) (hs : List (Str × Int)) : Prop where
  g0 : gs ≠ []
  g1 : gs.length < 1000
  gv : ∀ g ∈ gs, Vn g
  h0 : hs ≠ []
  h1 : hs.length ≤ 3
  hv : ∀ h ∈ hs, Vn h.1 ∧ h.1 ∈ gs
theorem ix_neg1 (xs : List D) (h : xs ≠ []) : ∃ x, x ∈ xs ∧ atI xs (-1) = some x := by
  rw [atI_neg1 h]
  exact ⟨_, List.getLast_mem h, rfl⟩
theorem market_ex (ns : List Int) (hn : ns.length ≤ 63) (st : Sto) : ∃ (gs : List Str) (hs : List (Str × Int)) (O : D), Mk gs hs ∧ m__law_market [scr ns] st = some (mk gs (.tup (hs.map hdd)) O, st) := by
  obtain ⟨m, m1, m2, m3⟩ := draw_ex ns hn (p := 1) (m := 3) (by omega) (by omega)
  obtain ⟨l0, l1, l2, l3, l4⟩ := names_ex ns hn (p := 10) (many := 1 + m) (by omega) (by omega) st
  have pm := srt_perm D.str l0
  have g0 : srt D.str l0 ≠ [] := fun e => by
    have h := pm.length_eq
    rw [e, l1] at h
    simp only [List.length_nil] at h
    omega
  have g1 : (srt D.str l0).length < 1000 := by rw [pm.length_eq]; omega
  have gn : ∀ g ∈ srt D.str l0, Vn g := fun g hg => l3 g (pm.mem_iff.mp hg)
  generalize hgs : srt D.str l0 = gs at *
  have a1 : ms__law_market_2 [some (scr ns), none, none, none, none, none] st = some (.nx [some (scr ns), some (.lst (gs.map .str)), none, none, none, none], st) := by
    unfold ms__law_market_2
    walk_at "ev"
    rw [m3]
    walk_at "ev"
    rw [l4]
    walk_at "ev"
    rw [fSortA_eq srt_str false (lookL_lst _ _), hgs]
    rfl
  have a2 : (mAsg (mLst true mNil) (mgName 2)) [some (scr ns), some (.lst (gs.map .str)), none, none, none, none] st = some (.nx [some (scr ns), some (.lst (gs.map .str)), some (.loc st.length), none, none, none], st ++ [.lst []]) := by
    walk_at "ev"
  obtain ⟨hs, w3, w5, s0, s1, s2, a3⟩ := starts_loop ns hn g0 g1 gn st
  obtain ⟨x, x1, x2, x3⟩ := draw_ex ns hn (p := 68) (m := 13) (by omega) (by omega)
  obtain ⟨y, y1, y2, y3⟩ := draw_ex ns hn (p := 69) (m := 6) (by omega) (by omega)
  obtain ⟨ga, ha1, ha2⟩ := pickS gs (v := 0) (by omega) (by have : 0 < gs.length := List.length_pos_iff.mpr g0
                                                            omega)
  obtain ⟨gb, hb1, hb2⟩ := ix_neg1 (gs.map .str) (fun e => g0 (List.map_eq_nil_iff.mp e))
  obtain ⟨gb, _, rfl⟩ := List.mem_map.mp hb1
  have a4 : ms__law_market_6 [some (scr ns), some (.lst (gs.map .str)), some (.loc st.length), w3, none, w5] (st ++ [.lst (hs.map hdd)]) = some (.nx [some (scr ns), some (.lst (gs.map .str)), some (.loc st.length), w3, some (.tup [.str ga, .int x, .non, .str gb, .int y]), w5], st ++ [.lst (hs.map hdd)]) := by
    unfold ms__law_market_6
    walk_at "ev"
    rw [ha2]
    walk_at "ev"
    rw [x3]
    walk_at "ev"
    rw [hb2]
    walk_at "ev"
    rw [y3]
    walk_at "ev"
  have pm2 := srt_perm hdd hs
  refine ⟨gs, srt hdd hs, .tup [.tup [.str "grow", .tup [.str ga, .int x, .non, .str gb, .int y], .non]], ⟨g0, g1, gn, fun e => s0 (List.length_eq_zero_iff.mp (by have := pm2.length_eq; rw [e] at this; simpa using this.symm)), by rw [pm2.length_eq]; exact s1, fun h hh => s2 h (pm2.mem_iff.mp hh)⟩,
    mDef_ext (st' := st ++ [SO.lst (hs.map hdd)]) rfl ((mSeq_nx a1).trans ((mSeq_nx a2).trans ((mSeq_nx a3).trans ((mSeq_nx a4).trans ?_)))) ?_ ⟨_, rfl⟩⟩
  · unfold ms__law_market_8
    walk_at "ev"
    rw [fSortA_eq srt_hdd false (look_top st (hs.map hdd))]
    walk_at "ev"
  · show (clos _ _ && (clos _ _ && _)) = true
    rw [clos_strs, clos_map _ _ (clo_hdd _)]
    rfl
end K21


namespace K21
open PySem PySem.Spec PyProof.Rows L2 My
local macro_rules | `(tactic| walk_at "ev") => `(tactic| try simp only [mDef, mSeq, mAsg, mV_eq, mC, mOp, mUn, mCb, mNil, mCons, mTup, mIfS, mTB, mT, mRet, mNext, mgTup, mgCons, mgNil, mgT, mgName, setTg, setTgs, mIf, mAnd, mOr, mNot, mAndV, mOrV, mNotV, fB, fLt_int, fLe, fGt, fGe, fAdd_int, fSub_int, fMod_int, fDiv_int, fMul_int, fNeg_int, fIn_tup, fIn_lst, settle_same, fIx, look_tup, look_d, look_lst, look_fro, lookL_lst, atI_0, atI_1, atI_2, atI_3, fLen_tup, fLen_lst, miSeq, srcOf, mPar, mAug, mRetN, fTuple_lst, fTuple_tup, alloc_f, fEq_int, fMaxL_2, fMinL_2, fSorted_ints, fIsN_int, fIsN_non, fNe_int, mDrop, wipeE, mYes, My.isNon, miRng1, miRng2, fInt_int, truD, fShl_int, fPow_int, fAbs_int, fEq_bl, fIsi_tt, fIsi_it, fIsi_ii, fIsi_ib, fIsi_bt, fIsi_bi, fIsi_bb, fIsi_tb, fIsi_ti, last_concat, List.dropLast_concat, look_loc, lookL_loc, fLen_loc, ixN_0, ixN_1, ixN_2, ixN_3, fSetL_loc, fAppend_loc, fPop_loc, fExtend_loc, mgSub, mMt, alloc_t, mFrz, mSl, mRev, mNone, mSome, mLst, fNeg, fSet_tup, fSet_lst, fInS_int, fSortS_set, fAll_lst, fAdd_tup, fEq_str, fNe_str, fIsN_str, fIsN_bl, fIsN_tup, fIsN_lst, fIsi_si, fIsi_ss, fIsi_sb, fIsi_st, fIsi_ts, fIsB_non, fIsB_int, fIsB_str, fIsB_tup, fIsB_bl, fAdd_str, fTuple_loc, fLen_fro, mNotT, mCV, mBreak, mCont, z0, z1, z2, z3, z4, z5, z6, z7, z8, z9, List.lookup_cons,
  b_some, b_none, m_some, Option.join_some, List.getElem?_cons_zero, List.getElem?_cons_succ, List.set_cons_zero, List.set_cons_succ, List.map_cons, List.map_nil, List.length_cons, List.length_nil, List.replicate, List.cons_append, List.nil_append, Nat.reduceAdd, Nat.reduceSub, if_true, if_false, reduceIte, reduceCtorEq, ite_bind, Bool.false_eq_true, decide_eq_true_eq, List.length_map, decide_true, decide_false, Bool.not_true, Bool.not_false])
local macro_rules | `(tactic| walk_at "nx") => `(tactic| (refine (mSeq_nx (by (walk_at "ev"; rfl))).trans ?_))
structure Fair (gs : List Str) (many : Int) (rows : List Rw) : Prop where
  len : (rows.length : Int) = many
  asc : (rows.map (·.n)).Pairwise ltS
  vn : ∀ r ∈ rows, Vn r.n ∧ r.g ∈ gs ∧ 0 ≤ r.m ∧ r.m ≤ 400
theorem fair_ex (ns : List Int) (hn : ns.length ≤ 63) {gs : List Str} {hs : List (Str × Int)} (M : Mk gs hs) {S O : D} {many : Int} (hm : 0 ≤ many ∧ many ≤ 36) (st : Sto) : ∃ rows, Fair gs many rows ∧ m__law_fair [scr ns, mk gs S O, .int many] st = some (.tup (rows.map Rw.d), st) := by
  let E : Option D → Option D → Option D → En := fun k n m => [some (scr ns), some (mk gs S O), some (.int many), some (.loc st.length), k, n, m]
  have gl : 0 < gs.length := List.length_pos_iff.mpr M.g0
  have gl1 := M.g1
  obtain ⟨l0, l1, l2, l3, l4⟩ := names_ex ns hn (p := 100) (many := many) (by omega) (by omega) (st ++ [.lst []])
  have pm := srt_perm D.str l0
  have a0 : (mAsg (mLst true mNil) (mgName 3)) [some (scr ns), some (mk gs S O), some (.int many), none, none, none, none] st = some (.nx (E none none none), st ++ [.lst []]) := by
    dsimp only [E]; walk_at "ev"
  have hmi : miEnumA (mCons (mCb (fSortA false) (mCons (mCb m__law_names (mCons (mV 0) (mCons (mC (.int 100)) (mCons (mV 2) mNil)))) mNil)) mNil) (E none none none) (st ++ [.lst []]) = some (⟨enumD ((srt D.str l0).map .str), none⟩, st ++ [.lst []]) := by
    unfold miEnumA
    dsimp only [E]; walk_at "ev"
    rw [l4]
    walk_at "ev"
    rw [fSortA_eq srt_str false (lookL_lst _ _)]
    rfl
  have ln : (srt D.str l0).length = many.toNat := by rw [pm.length_eq, l1]
  obtain ⟨o, s1, b1, b2⟩ := for_inv (T := .tup [(.name 4), (.name 5)]) (b := mSeq (ms__law_fair_2) (mSeq (ms__law_fair_4) (ms__law_fair_6))) hmi
    (fun i en s => ∃ (rs : List Rw) (k n m : Option D), rs.map (·.n) = (srt D.str l0).take i ∧ (∀ r ∈ rs, r.g ∈ gs ∧ 0 ≤ r.m ∧ r.m ≤ 400) ∧ en = E k n m ∧ s = st ++ [.lst (rs.map Rw.d)]) (fun _ _ => False) (fun _ _ => False) (fun _ _ _ _ => ok_none)
    ⟨[], _, _, _, rfl, (fun r h => absurd h List.not_mem_nil), rfl, rfl⟩ (by
    rintro i d en s hd ⟨rs, k, n, m, h1, h2, rfl, rfl⟩
    obtain ⟨x, hx, rfl⟩ := enum_get hd
    rw [List.getElem?_map] at hx
    obtain ⟨nm, hnm, rfl⟩ := Option.map_eq_some_iff.mp hx
    have hi : i < (srt D.str l0).length := (List.getElem?_eq_some_iff.mp hnm).1
    have ol : rs.length = i := by
      have e := congrArg List.length h1
      rw [List.length_map, List.length_take] at e
      omega
    obtain ⟨x, x1, x2, x3⟩ := draw_ex ns hn (p := 600 + (i : Int)) (m := 6) (by omega) (by omega)
    obtain ⟨y, y1, y2, y3⟩ := draw_ex ns hn (p := 640 + (i : Int)) (m := 2) (by omega) (by omega)
    obtain ⟨z, z1, z2, z3⟩ := draw_ex ns hn (p := 680 + (i : Int)) (m := 401) (by omega) (by omega)
    obtain ⟨u, u1, u2, u3⟩ := draw_ex ns hn (p := 720 + (i : Int)) (m := gs.length) (by omega) (by omega)
    obtain ⟨a, ha, ea⟩ := pick [0, 1, 3, 12, 40, 400] (v := x) x1 (by show x < ((6 : Nat) : Int); omega)
    have ea : atI [D.int 0, .int 1, .int 3, .int 12, .int 40, .int 400] x = some (.int a) := ea
    obtain ⟨g, hg, eg⟩ := pickS gs u1 u2
    have hab : 0 ≤ a ∧ a ≤ 400 := by
      simp only [List.mem_cons, List.not_mem_nil, or_false] at ha
      omega
    have c1 : ms__law_fair_2 (E (some (.int (i : Int))) (some (.str nm)) m) (st ++ [.lst (rs.map Rw.d)]) = some (.nx (E (some (.int (i : Int))) (some (.str nm)) (some (.int a))), st ++ [.lst (rs.map Rw.d)]) := by
      unfold ms__law_fair_2
      dsimp only [E]; walk_at "ev"
      rw [x3]
      walk_at "ev"
      rw [ea]
      walk_at "ev"
    obtain ⟨b, hb, c2⟩ : ∃ b, (0 ≤ b ∧ b ≤ 400) ∧ ms__law_fair_4 (E (some (.int (i : Int))) (some (.str nm)) (some (.int a))) (st ++ [.lst (rs.map Rw.d)]) = some (.nx (E (some (.int (i : Int))) (some (.str nm)) (some (.int b))), st ++ [.lst (rs.map Rw.d)]) := by
      by_cases h : y = 0
      · refine ⟨z, by omega, ?_⟩
        unfold ms__law_fair_4 ms__law_fair_0
        dsimp only [E]; walk_at "ev"
        rw [y3]
        walk_at "ev"
        rw [if_pos h]
        walk_at "ev"
        rw [z3]
        walk_at "ev"
      · refine ⟨a, hab, ?_⟩
        unfold ms__law_fair_4
        dsimp only [E]; walk_at "ev"
        rw [y3]
        walk_at "ev"
        rw [if_neg h]
    refine ⟨E (some (.int (i : Int))) (some (.str nm)) m, .nx (E (some (.int (i : Int))) (some (.str nm)) (some (.int b))), st ++ [.lst ((rs ++ [Rw.mk nm g b]).map Rw.d)], rfl, ?_, rs ++ [Rw.mk nm g b], _, _, _, ?_, ?_, rfl, rfl⟩
    · refine (mSeq_nx c1).trans ((mSeq_nx c2).trans ?_)
      rw [List.map_append]
      unfold ms__law_fair_6
      refine app_top rfl ?_ (by rw [List.length_map]; omega)
      dsimp only [E]; walk_at "ev"
      rw [u3]
      walk_at "ev"
      rw [eg]
      walk_at "ev"
      rfl
    · rw [List.map_append, h1, List.take_add_one, hnm]
      rfl
    · intro r hr
      rcases List.mem_append.mp hr with hr | hr
      · exact h2 r hr
      · rw [List.mem_singleton.mp hr]
        exact ⟨hg, hb⟩)
  cases o with
  | nx e =>
    rcases b2 with ⟨rs, k, n, m, h1, h2, rfl, rfl⟩ | f
    · have hl : (enumD ((srt D.str l0).map .str)).length = (srt D.str l0).length := by unfold enumD; simp
      have h1 : rs.map (·.n) = srt D.str l0 := by
        rw [h1]
        show (srt D.str l0).take (enumD ((srt D.str l0).map .str)).length = _
        rw [hl, List.take_length]
      refine ⟨rs, ⟨?_, by rw [h1]; exact srt_lt l2, fun r hr => ⟨l3 _ (pm.mem_iff.mp (by rw [← h1]; exact List.mem_map.mpr ⟨r, hr, rfl⟩)), h2 r hr⟩⟩, mDef_ext (st' := st ++ [SO.lst (rs.map Rw.d)]) rfl ((mSeq_nx a0).trans ((mSeq_nx (by unfold ms__law_fair_8; exact b1)).trans ?_)) ?_ ⟨_, rfl⟩⟩
      · have e := congrArg List.length h1
        rw [List.length_map, ln] at e
        omega
      · dsimp only [E]; walk_at "ev"
        rw [top_get]
        walk_at "ev"
      · exact clos_map _ _ (clo_row _) rs
    · exact f.elim
  | rt d => exact b2.elim
  | bk e => exact b2.elim
  | ct e => exact b2.elim
/-! ### a fair is right -/
theorem rowW_ok {gs : List Str} {r : Rw} {ah : Option Str} (h : Vn r.n ∧ r.g ∈ gs ∧ 0 ≤ r.m ∧ r.m ≤ 400) (ha : ∀ a, ah = some a → ltS a r.n) : rowW gs ah r.d = none := by
  unfold Rw.d
  rw [rowW_s, h.1.is, if_neg (by decide), if_neg, if_neg (fun z => z h.2.1), if_neg (by omega)]
  cases ah with
  | none => exact Bool.false_ne_true
  | some a =>
    show ¬ (!decide (ltS a r.n)) = true
    rw [decide_eq_true (ha a rfl)]
    decide
theorem fairL_ok {gs : List Str} : ∀ (rs : List Rw) (k : Nat) (ah : Option Str), (∀ r ∈ rs, Vn r.n ∧ r.g ∈ gs ∧ 0 ≤ r.m ∧ r.m ≤ 400) → (rs.map (·.n)).Pairwise ltS → (∀ a r, ah = some a → r ∈ rs → ltS a r.n) → fairL gs k ah (rs.map Rw.d) = none
  | [], _, _, _, _, _ => rfl
  | r :: rs, k, ah, h, hp, ha => by
    rw [List.map_cons] at hp ⊢
    obtain ⟨p1, p2⟩ := List.pairwise_cons.mp hp
    unfold fairL
    rw [rowW_ok (h r (List.mem_cons_self)) (fun a e => ha a r e (List.mem_cons_self))]
    exact fairL_ok rs (k + 1) (some r.n) (fun x hx => h x (List.mem_cons_of_mem _ hx)) p2 (fun a x e hx => by
      cases e
      exact p1 x.n (List.mem_map.mpr ⟨x, hx, rfl⟩))
theorem res_ok {gs : List Str} {rs : List Rw} (h : ∀ r ∈ rs, Vn r.n ∧ r.g ∈ gs ∧ 0 ≤ r.m ∧ r.m ≤ 400) (hp : (rs.map (·.n)).Pairwise ltS) : resD gs (.tup (rs.map Rw.d)) = .tup [.str "told", .int rs.length] := by
  rw [resD_t, fairL_ok rs 0 none h hp (fun a r e => by cases e)]
  rw [List.length_map]
theorem row_rok {r : Rw} (h : r.n.length < 10000) : RowOk r.d := ⟨rfl, fun xs e x hx => by
  cases e
  simp only [List.mem_cons, List.not_mem_nil, or_false] at hx
  rcases hx with rfl | rfl | rfl <;> rfl, fun n xs e => by cases e; exact h⟩
theorem Fair.rok {gs : List Str} {many : Int} {rows : List Rw} (F : Fair gs many rows) : ∀ r ∈ rows, RowOk r.d := fun r hr => row_rok (by have := (F.vn r hr).1.len; omega)
theorem rows_th {rs : List D} (h : ∀ r ∈ rs, RowOk r) : ThOk (.tup rs) := ⟨rfl, fun xs e x hx => by cases e; exact h x hx⟩
end K21


namespace K21
open PySem PySem.Spec PyProof.Rows L2 My
local macro_rules | `(tactic| walk_at "ev") => `(tactic| try simp only [mDef, mSeq, mAsg, mV_eq, mC, mOp, mUn, mCb, mNil, mCons, mTup, mIfS, mTB, mT, mRet, mNext, mgTup, mgCons, mgNil, mgT, mgName, setTg, setTgs, mIf, mAnd, mOr, mNot, mAndV, mOrV, mNotV, fB, fLt_int, fLe, fGt, fGe, fAdd_int, fSub_int, fMod_int, fDiv_int, fMul_int, fNeg_int, fIn_tup, fIn_lst, settle_same, fIx, look_tup, look_d, look_lst, look_fro, lookL_lst, atI_0, atI_1, atI_2, atI_3, fLen_tup, fLen_lst, miSeq, srcOf, mPar, mAug, mRetN, fTuple_lst, fTuple_tup, alloc_f, fEq_int, fMaxL_2, fMinL_2, fSorted_ints, fIsN_int, fIsN_non, fNe_int, mDrop, wipeE, mYes, My.isNon, miRng1, miRng2, fInt_int, truD, fShl_int, fPow_int, fAbs_int, fEq_bl, fIsi_tt, fIsi_it, fIsi_ii, fIsi_ib, fIsi_bt, fIsi_bi, fIsi_bb, fIsi_tb, fIsi_ti, last_concat, List.dropLast_concat, look_loc, lookL_loc, fLen_loc, ixN_0, ixN_1, ixN_2, ixN_3, fSetL_loc, fAppend_loc, fPop_loc, fExtend_loc, mgSub, mMt, alloc_t, mFrz, mSl, mRev, mNone, mSome, mLst, fNeg, fSet_tup, fSet_lst, fInS_int, fSortS_set, fAll_lst, fAdd_tup, fEq_str, fNe_str, fIsN_str, fIsN_bl, fIsN_tup, fIsN_lst, fIsi_si, fIsi_ss, fIsi_sb, fIsi_st, fIsi_ts, fIsB_non, fIsB_int, fIsB_str, fIsB_tup, fIsB_bl, fAdd_str, fTuple_loc, fLen_fro, mNotT, mCV, mBreak, mCont, z0, z1, z2, z3, z4, z5, z6, z7, z8, z9, List.lookup_cons,
  b_some, b_none, m_some, Option.join_some, List.getElem?_cons_zero, List.getElem?_cons_succ, List.set_cons_zero, List.set_cons_succ, List.map_cons, List.map_nil, List.length_cons, List.length_nil, List.replicate, List.cons_append, List.nil_append, Nat.reduceAdd, Nat.reduceSub, if_true, if_false, reduceIte, reduceCtorEq, ite_bind, Bool.false_eq_true, decide_eq_true_eq, List.length_map, decide_true, decide_false, Bool.not_true, Bool.not_false])
local macro_rules | `(tactic| walk_at "nx") => `(tactic| (refine (mSeq_nx (by (walk_at "ev"; rfl))).trans ?_))
theorem mSl_tup {mu : Bool} {a : ME} {l h : MO} {en : En} {st : Sto} {ds : List D} {lo hi : Option Int} (ha : a en st = some (.tup ds, st)) (hl : l en st = some (lo, st)) (hh : h en st = some (hi, st)) : mSl mu a l h en st = some (.tup (cutD ds lo hi), st) := by
  unfold mSl
  rw [ha, b_some]
  dsimp only
  rw [hl, b_some]
  dsimp only
  rw [hh]
  rfl
theorem mSome_int {a : ME} {en : En} {st : Sto} {i : Int} (h : a en st = some (.int i, st)) : mSome a en st = some (some i, st) := by
  unfold mSome
  rw [h]
  rfl
/-- one thing put at a place -/
def putL (xs : List D) (i : Nat) (d : D) : List D := xs.take i ++ [d] ++ xs.drop (i + 1)
theorem put_eq {xs : List D} {a : Int} (h0 : 0 ≤ a) (hl : xs.length < 1000) (d : D) (st : Sto) : m__law_put [.tup xs, .int a, d] st = some (.tup (putL xs a.toNat d), st) := by
  have s1 : mSl false (mV 0) mNone (mSome (mV 1)) [some (.tup xs), some (.int a), some d] st = some (.tup (xs.take a.toNat), st) := by
    rw [mSl_tup (ds := xs) rfl rfl (mSome_int rfl), cutD_take _ _ h0]
  have s2 : mSl false (mV 0) (mSome (mOp (fAdd false) (mV 1) (mC (.int 1)))) mNone [some (.tup xs), some (.int a), some d] st = some (.tup (xs.drop (a.toNat + 1)), st) := by
    have e : (a + 1).toNat = a.toNat + 1 := by omega
    rw [mSl_tup (ds := xs) rfl (mSome_int (i := a + 1) rfl) rfl, cut_drop _ (by omega), e]
  have t1 : mTup (mCons (mV 2) mNil) [some (.tup xs), some (.int a), some d] st = some (.tup [d], st) := by
    walk_at "ev"
  refine mDef_rt rfl ?_
  unfold ms__law_put_0
  generalize mSl false (mV 0) mNone (mSome (mV 1)) = A at s1 ⊢
  generalize mSl false (mV 0) (mSome (mOp (fAdd false) (mV 1) (mC (.int 1)))) mNone = B at s2 ⊢
  generalize mTup (mCons (mV 2) mNil) = T at t1 ⊢
  show mRet (mOp (fAdd false) (mOp (fAdd false) A T) B) [some (.tup xs), some (.int a), some d] st = _
  unfold mRet mOp
  rw [s1, b_some]
  dsimp only
  rw [t1, b_some]
  dsimp only
  rw [fAdd_tup, if_pos (szle (by rw [List.length_take]; simp; omega)), b_some]
  dsimp only
  rw [s2, b_some]
  dsimp only
  rw [fAdd_tup, if_pos (szle (by rw [List.length_append, List.length_take, List.length_drop]; simp; omega)), b_some]
  rfl
def rowB (r : D) : Bool := pl r && (match r with
  | .tup xs => xs.all pl && (match xs with
    | .str n :: _ => decide (n.length < 10000)
    | _ => true)
  | _ => true)
theorem rowB_ok {r : D} (h : rowB r = true) : RowOk r := by
  unfold rowB at h
  rw [Bool.and_eq_true] at h
  refine ⟨h.1, fun xs e x hx => ?_, fun n xs e => ?_⟩
  · subst e
    have h2 := h.2
    dsimp only at h2
    rw [Bool.and_eq_true] at h2
    exact List.all_eq_true.mp h2.1 x hx
  · subst e
    have h2 := h.2
    dsimp only at h2
    rw [Bool.and_eq_true] at h2
    exact of_decide_eq_true h2.2
theorem put_rok {xs : List D} {i : Nat} {d : D} (h : ∀ r ∈ xs, RowOk r) (hd : RowOk d) : ∀ r ∈ putL xs i d, RowOk r := by
  intro r hr
  unfold putL at hr
  rcases List.mem_append.mp hr with hr | hr
  · rcases List.mem_append.mp hr with hr | hr
    · exact h r (List.mem_of_mem_take hr)
    · rw [List.mem_singleton.mp hr]; exact hd
  · exact h r (List.mem_of_mem_drop hr)
theorem putL_len {xs : List D} {i : Nat} {d : D} (h : i < xs.length) : (putL xs i d).length = xs.length := by
  unfold putL
  rw [List.length_append, List.length_append, List.length_take, List.length_drop]
  simp
  omega
theorem fStr_int {m : Int} (h : 0 ≤ m ∧ m ≤ 400) (st : Sto) : fStr [.int m] st = some (.str (toString m), st) := by
  have hl : m.natAbs.log2 < 1920 := by
    by_cases h0 : m.natAbs = 0
    · rw [h0]; decide
    · exact (Nat.log2_lt h0).mpr (Nat.lt_of_lt_of_le (by omega : m.natAbs < 2 ^ 9) (Nat.pow_le_pow_right (by decide) (by decide)))
  show (if m.natAbs.log2 < 1920 then _ else _) = _
  rw [if_pos hl]
theorem fList_row (r : Rw) (st : Sto) : fList false [r.d] st = some (.lst [.str r.n, .str r.g, .int r.m], st) := rfl
def noR (r : Rw) : List D := [.lst [.str r.n, .str r.g, .int r.m], .tup [.str r.n, .str r.g], .tup [.str r.n, .str r.g, .int r.m, .int 0], .tup [.str r.n, .str r.g, .bl true], .tup [.str r.n, .str r.g, .non], .tup [.str r.n, .str r.g, .str (toString r.m)],
  .tup [.non, .str r.g, .int r.m], .tup [.str r.n, .non, .int r.m], .str r.n, .non, .int 7, .tup [], .tup [r.d], .tup [.str r.n, .tup [.str r.g], .int r.m], .str "abc", .tup [.int 7, .str r.g, .int r.m],
  .tup [.str r.n, .str r.g, .bl false], .lst [], .tup [.bl true, .str r.g, .int r.m], .tup [.str r.n, .str r.g, .tup [.int r.m]], .tup [.str r.n, .int r.m, .str r.g], .tup [.str r.n, .lst [.str r.g], .int r.m]]
theorem noR_ok {r : Rw} (h : r.n.length < 10000) : ∀ d ∈ noR r, RowOk d := by
  have a : (noR r).all rowB = true := by
    simp [noR, rowB, pl, h, Rw.d]
  exact fun d hd => rowB_ok (List.all_eq_true.mp a d hd)
theorem noR_cl (r : Rw) : ∀ d ∈ noR r, ∀ n, clo n d = true := by
  intro d hd n
  simp only [noR, List.mem_cons, List.not_mem_nil, or_false] at hd
  rcases hd with rfl | rfl | rfl | rfl | rfl | rfl | rfl | rfl | rfl | rfl | rfl | rfl | rfl | rfl | rfl | rfl | rfl | rfl | rfl | rfl | rfl | rfl <;> rfl
theorem clos_all {n : Nat} : ∀ {xs : List D}, (∀ x ∈ xs, clo n x = true) → clos n xs = true
  | [], _ => rfl
  | x :: xs, h => by
    unfold clos
    rw [h x (List.mem_cons_self), clos_all fun y hy => h y (List.mem_cons_of_mem _ hy)]
    rfl
/-- a row that may be put, a thing that may be asked -/
structure Rk (r : D) : Prop where
  ok : RowOk r
  cl : ∀ n, clo n r = true
structure Tk (t : D) : Prop where
  ok : ThOk t
  cl : ∀ n, clo n t = true
theorem tup_tk {xs : List D} (h : ∀ r ∈ xs, Rk r) : Tk (.tup xs) := ⟨rows_th fun r hr => (h r hr).ok, fun n => clos_all fun r hr => (h r hr).cl n⟩
theorem put_rk {xs : List D} {i : Nat} {d : D} (h : ∀ r ∈ xs, Rk r) (hd : Rk d) : ∀ r ∈ putL xs i d, Rk r := by
  intro r hr
  unfold putL at hr
  rcases List.mem_append.mp hr with hr | hr
  · rcases List.mem_append.mp hr with hr | hr
    · exact h r (List.mem_of_mem_take hr)
    · rw [List.mem_singleton.mp hr]; exact hd
  · exact h r (List.mem_of_mem_drop hr)
theorem row_rk {r : Rw} (h : r.n.length < 10000) : Rk r.d := ⟨row_rok h, fun n => rfl⟩
theorem no_row_ex {r : Rw} (h : r.n.length < 10000) (hm : 0 ≤ r.m ∧ r.m ≤ 400) {v : Int} (hv : 0 ≤ v ∧ v < 22) (st : Sto) : ∃ d, Rk d ∧ m__law_no_row [r.d, .int v] st = some (d, st) := by
  obtain ⟨d, h1, h2⟩ := atI_mem (xs := noR r) (i := v) hv.1 (by show v < ((22 : Nat) : Int); omega)
  refine ⟨d, ⟨noR_ok h d h2, noR_cl r d h2⟩, mDef_rt rfl ?_⟩
  let E : D → En := fun w => [some r.d, some (.int v), some w, some (.str r.n), some (.str r.g), some (.int r.m)]
  let W1 : List D := [.lst [.str r.n, .str r.g, .int r.m], .tup [.str r.n, .str r.g], .tup [.str r.n, .str r.g, .int r.m, .int 0], .tup [.str r.n, .str r.g, .bl true], .tup [.str r.n, .str r.g, .non], .tup [.str r.n, .str r.g, .str (toString r.m)]]
  let W2 : List D := W1 ++ [.tup [.non, .str r.g, .int r.m], .tup [.str r.n, .non, .int r.m], .str r.n, .non, .int 7, .tup [], .tup [r.d], .tup [.str r.n, .tup [.str r.g], .int r.m], .str "abc", .tup [.int 7, .str r.g, .int r.m]]
  have a1 : ms__law_no_row_0 [some r.d, some (.int v), none, none, none, none] st = some (.nx [some r.d, some (.int v), none, some (.str r.n), some (.str r.g), some (.int r.m)], st) := by
    unfold ms__law_no_row_0
    unfold Rw.d
    walk_at "ev"
  have a2 : ms__law_no_row_2 [some r.d, some (.int v), none, some (.str r.n), some (.str r.g), some (.int r.m)] st = some (.nx (E (.lst W1)), st) := by
    unfold ms__law_no_row_2
    walk_at "ev"
    rw [fList_row]
    walk_at "ev"
    rw [fStr_int hm]
    walk_at "ev"
    rfl
  have a3 : ms__law_no_row_4 (E (.lst W1)) st = some (.nx (E (.lst W2)), st) := by
    unfold ms__law_no_row_4
    dsimp only [E]
    walk_at "ev"
    rw [if_pos (szle (by decide))]
    walk_at "ev"
    rw [fAdd_lsts (by simp [W1])]
    walk_at "ev"
    rfl
  have a4 : ms__law_no_row_6 (E (.lst W2)) st = some (.nx (E (.lst (noR r))), st) := by
    unfold ms__law_no_row_6
    dsimp only [E]
    walk_at "ev"
    rw [fAdd_lsts (by simp [W2, W1])]
    walk_at "ev"
    rfl
  refine (mSeq_nx a1).trans ((mSeq_nx a2).trans ((mSeq_nx a3).trans ((mSeq_nx a4).trans ?_)))
  dsimp only [E]
  walk_at "ev"
  rw [h1]
  walk_at "ev"
end K21


namespace K21
open PySem PySem.Spec PyProof.Rows L2 My
local macro_rules | `(tactic| walk_at "ev") => `(tactic| try simp only [mDef, mSeq, mAsg, mV_eq, mC, mOp, mUn, mCb, mNil, mCons, mTup, mIfS, mTB, mT, mRet, mNext, mgTup, mgCons, mgNil, mgT, mgName, setTg, setTgs, mIf, mAnd, mOr, mNot, mAndV, mOrV, mNotV, fB, fLt_int, fLe, fGt, fGe, fAdd_int, fSub_int, fMod_int, fDiv_int, fMul_int, fNeg_int, fIn_tup, fIn_lst, settle_same, fIx, look_tup, look_d, look_lst, look_fro, lookL_lst, atI_0, atI_1, atI_2, atI_3, fLen_tup, fLen_lst, miSeq, srcOf, mPar, mAug, mRetN, fTuple_lst, fTuple_tup, alloc_f, fEq_int, fMaxL_2, fMinL_2, fSorted_ints, fIsN_int, fIsN_non, fNe_int, mDrop, wipeE, mYes, My.isNon, miRng1, miRng2, fInt_int, truD, fShl_int, fPow_int, fAbs_int, fEq_bl, fIsi_tt, fIsi_it, fIsi_ii, fIsi_ib, fIsi_bt, fIsi_bi, fIsi_bb, fIsi_tb, fIsi_ti, last_concat, List.dropLast_concat, look_loc, lookL_loc, fLen_loc, ixN_0, ixN_1, ixN_2, ixN_3, fSetL_loc, fAppend_loc, fPop_loc, fExtend_loc, mgSub, mMt, alloc_t, mFrz, mSl, mRev, mNone, mSome, mLst, fNeg, fSet_tup, fSet_lst, fInS_int, fSortS_set, fAll_lst, fAdd_tup, fEq_str, fNe_str, fIsN_str, fIsN_bl, fIsN_tup, fIsN_lst, fIsi_si, fIsi_ss, fIsi_sb, fIsi_st, fIsi_ts, fIsB_non, fIsB_int, fIsB_str, fIsB_tup, fIsB_bl, fAdd_str, fTuple_loc, fLen_fro, mNotT, mCV, mBreak, mCont, z0, z1, z2, z3, z4, z5, z6, z7, z8, z9, List.lookup_cons,
  b_some, b_none, m_some, Option.join_some, List.getElem?_cons_zero, List.getElem?_cons_succ, List.set_cons_zero, List.set_cons_succ, List.map_cons, List.map_nil, List.length_cons, List.length_nil, List.replicate, List.cons_append, List.nil_append, Nat.reduceAdd, Nat.reduceSub, if_true, if_false, reduceIte, reduceCtorEq, ite_bind, Bool.false_eq_true, decide_eq_true_eq, List.length_map, decide_true, decide_false, Bool.not_true, Bool.not_false])
local macro_rules | `(tactic| walk_at "nx") => `(tactic| (refine (mSeq_nx (by (walk_at "ev"; rfl))).trans ?_))
def NW : List Str := KW ++ (["", "Ann", "1a", "ann bob", "a_b", "abcdefghi", "a\n", "a-", " a", "a ", "9", "aB", "abcdefgh0"] : List Str)
theorem nw_len : ∀ w ∈ NW, w.length < 10000 := by decide +kernel
theorem len_app (x y : Str) : (x ++ y).length = x.length + y.length := by rw [len_cps, app_cps, List.length_append, ← len_cps, ← len_cps]
theorem no_name_ex {r : Rw} (h : r.n.length ≤ 8) {v : Int} (hv : 0 ≤ v ∧ v < 29) (st : Sto) : ∃ d, Rk d ∧ m__law_no_name [r.d, .int v] st = some (d, st) := by
  let E : Option D → En := fun w => [some r.d, some (.int v), w, some (.str r.n), some (.str r.g), some (.int r.m)]
  have a1 : ms__law_no_name_0 [some r.d, some (.int v), none, none, none, none] st = some (.nx (E none), st) := by
    unfold ms__law_no_name_0
    dsimp only [E]
    unfold Rw.d
    walk_at "ev"
  have a2 : ms__law_no_name_2 (E none) st = some (.nx (E (some (.lst (NW.map .str)))), st) := by
    unfold ms__law_no_name_2
    dsimp only [E]
    walk_at "ev"
    rw [words_call]
    walk_at "ev"
    rw [if_pos (szle (by decide))]
    walk_at "ev"
    rw [fAdd_lsts (by simp [KW])]
    walk_at "ev"
    rfl
  have l8 : ("aaaaaaaa" : Str).length = 8 := by decide +kernel
  by_cases h0 : v = 0
  · refine ⟨.tup [.str (r.n ++ ("aaaaaaaa" : Str)), .str r.g, .int r.m], row_rk (r := ⟨r.n ++ ("aaaaaaaa" : Str), r.g, r.m⟩) (by show (r.n ++ ("aaaaaaaa" : Str)).length < 10000; rw [len_app]; omega), mDef_rt rfl ((mSeq_nx a1).trans ((mSeq_nx a2).trans (mSeq_rt ?_)))⟩
    unfold ms__law_no_name_4
    dsimp only [E]
    walk_at "ev"
    rw [if_pos h0, if_pos (szle (by omega))]
    walk_at "ev"
  · obtain ⟨w, h1, h2⟩ := atI_mem (xs := NW) (i := (v - 1) % 28) (Int.emod_nonneg _ (by omega)) (by show (v - 1) % 28 < ((28 : Nat) : Int); omega)
    have e : atI (NW.map D.str) ((v - 1) % 28) = some (.str w) := (atI_map D.str NW _).trans (by rw [h1]; rfl)
    refine ⟨.tup [.str w, .str r.g, .int r.m], row_rk (r := ⟨w, r.g, r.m⟩) (nw_len w h2), mDef_rt rfl ((mSeq_nx a1).trans ((mSeq_nx a2).trans ((mSeq_nx (en' := E (some (.lst (NW.map .str)))) (st' := st) ?_).trans ?_)))⟩
    · unfold ms__law_no_name_4
      dsimp only [E]
      walk_at "ev"
      rw [if_neg h0]
    · unfold ms__law_no_name_6
      dsimp only [E]
      walk_at "ev"
      rw [show (NW.length : Int) = 28 from rfl, cMod_ok (by omega)]
      walk_at "ev"
      rw [e]
      walk_at "ev"
theorem pickA {α : Type} (f : α → D) (l : List α) {v : Int} (h0 : 0 ≤ v) (h : v < l.length) : ∃ x, x ∈ l ∧ atI (l.map f) v = some (f x) := by
  obtain ⟨x, hx, hm⟩ := atI_mem h0 h
  exact ⟨x, hm, (atI_map f l v).trans (by rw [hx]; rfl)⟩
theorem str_rk {t : D} (h : pl t = true) (hp : isTp t = false) (hc : ∀ n, clo n t = true) : Tk t := ⟨⟨h, fun xs e => by rw [e] at hp; cases hp⟩, hc⟩
end K21


namespace K21
open PySem PySem.Spec PyProof.Rows L2 My
local macro_rules | `(tactic| walk_at "ev") => `(tactic| try simp only [mDef, mSeq, mAsg, mV_eq, mC, mOp, mUn, mCb, mNil, mCons, mTup, mIfS, mTB, mT, mRet, mNext, mgTup, mgCons, mgNil, mgT, mgName, setTg, setTgs, mIf, mAnd, mOr, mNot, mAndV, mOrV, mNotV, fB, fLt_int, fLe, fGt, fGe, fAdd_int, fSub_int, fMod_int, fDiv_int, fMul_int, fNeg_int, fIn_tup, fIn_lst, settle_same, fIx, look_tup, look_d, look_lst, look_fro, lookL_lst, atI_0, atI_1, atI_2, atI_3, fLen_tup, fLen_lst, miSeq, srcOf, mPar, mAug, mRetN, fTuple_lst, fTuple_tup, alloc_f, fEq_int, fMaxL_2, fMinL_2, fSorted_ints, fIsN_int, fIsN_non, fNe_int, mDrop, wipeE, mYes, My.isNon, miRng1, miRng2, fInt_int, truD, fShl_int, fPow_int, fAbs_int, fEq_bl, fIsi_tt, fIsi_it, fIsi_ii, fIsi_ib, fIsi_bt, fIsi_bi, fIsi_bb, fIsi_tb, fIsi_ti, last_concat, List.dropLast_concat, look_loc, lookL_loc, fLen_loc, ixN_0, ixN_1, ixN_2, ixN_3, fSetL_loc, fAppend_loc, fPop_loc, fExtend_loc, mgSub, mMt, alloc_t, mFrz, mSl, mRev, mNone, mSome, mLst, fNeg, fSet_tup, fSet_lst, fInS_int, fSortS_set, fAll_lst, fAdd_tup, fEq_str, fNe_str, fIsN_str, fIsN_bl, fIsN_tup, fIsN_lst, fIsi_si, fIsi_ss, fIsi_sb, fIsi_st, fIsi_ts, fIsB_non, fIsB_int, fIsB_str, fIsB_tup, fIsB_bl, fAdd_str, fTuple_loc, fLen_fro, mNotT, mCV, mBreak, mCont, z0, z1, z2, z3, z4, z5, z6, z7, z8, z9, List.lookup_cons,
  b_some, b_none, m_some, Option.join_some, List.getElem?_cons_zero, List.getElem?_cons_succ, List.set_cons_zero, List.set_cons_succ, List.map_cons, List.map_nil, List.length_cons, List.length_nil, List.replicate, List.cons_append, List.nil_append, Nat.reduceAdd, Nat.reduceSub, if_true, if_false, reduceIte, reduceCtorEq, ite_bind, Bool.false_eq_true, decide_eq_true_eq, List.length_map, decide_true, decide_false, Bool.not_true, Bool.not_false])
local macro_rules | `(tactic| walk_at "nx") => `(tactic| (refine (mSeq_nx (by (walk_at "ev"; rfl))).trans ?_))
theorem opIx {A B : ME} {en : En} {s : Sto} {xs : List D} {i : Int} {x : D} (hA : A en s = some (.tup xs, s)) (hB : B en s = some (.int i, s)) (h : atI xs i = some x) : (mOp fIx A B) en s = some (x, s) := by
  unfold mOp
  rw [hA, b_some, hB, b_some]
  dsimp only
  rw [fIx, look_tup, b_some, h, m_some]
theorem opIxL {A B : ME} {en : En} {s : Sto} {xs : List D} {i : Int} {x : D} (hA : A en s = some (.lst xs, s)) (hB : B en s = some (.int i, s)) (h : atI xs i = some x) : (mOp fIx A B) en s = some (x, s) := by
  unfold mOp
  rw [hA, b_some, hB, b_some]
  dsimp only
  rw [fIx, look_lst, b_some, h, m_some]
theorem cons3 {A B Y : ME} {en : En} {s : Sto} {a b y : D} (hA : A en s = some (a, s)) (hB : B en s = some (b, s)) (hY : Y en s = some (y, s)) : mCons A (mCons B (mCons Y mNil)) en s = some ([a, b, y], s) := by
  unfold mCons mNil
  rw [hA, b_some, hB, b_some, hY, b_some, b_some, b_some]
  rfl
theorem callPut {A B Y : ME} {en : En} {s : Sto} {xs : List D} {v : Int} {d : D} (hA : A en s = some (.tup xs, s)) (hB : B en s = some (.int v, s)) (hY : Y en s = some (d, s)) (h0 : 0 ≤ v) (hl : xs.length < 1000) : (mCb m__law_put (mCons A (mCons B (mCons Y mNil)))) en s = some (.tup (putL xs v.toNat d), s) := by
  unfold mCb
  rw [cons3 hA hB hY, b_some]
  exact put_eq h0 hl d s
theorem callDraw {ns : List Int} {M : ME} {en : En} {s : Sto} {p m v : Int} (h0 : en[0]? = some (some (scr ns))) (hM : M en s = some (.int m, s)) (h : ∀ st, m__law_draw [scr ns, .int p, .int m] st = some (.int v, st)) : (mCb m__law_draw (mCons (mV 0) (mCons (mC (.int p)) (mCons M mNil)))) en s = some (.int v, s) := by
  unfold mCb
  rw [cons3 (mV_at h0) rfl hM, b_some]
  exact h s
theorem tup3 {A B Y : ME} {en : En} {s : Sto} {a b y : D} (hA : A en s = some (a, s)) (hB : B en s = some (b, s)) (hY : Y en s = some (y, s)) : mTup (mCons A (mCons B (mCons Y mNil))) en s = some (.tup [a, b, y], s) := by
  unfold mTup
  rw [cons3 hA hB hY, b_some]
  dsimp only
  rw [if_pos (szle (by simp))]
theorem call2 {f : List D → Sto → Option (D × Sto)} {A B : ME} {en : En} {s : Sto} {a b d : D} (hA : A en s = some (a, s)) (hB : B en s = some (b, s)) (h : f [a, b] s = some (d, s)) : (mCb f (mCons A (mCons B mNil))) en s = some (d, s) := by
  unfold mCb mCons mNil
  rw [hA, b_some, hB, b_some, b_some, b_some]
  exact h
theorem asgV {A : ME} {en : En} {s : Sto} {d : D} {i : Nat} (h : A en s = some (d, s)) : (mAsg A (mgName i)) en s = some (.nx (en.set i (some d)), s) := by
  unfold mAsg
  rw [h, b_some]
  rfl
theorem opAdd {A B : ME} {en : En} {s : Sto} {i j : Int} (hA : A en s = some (.int i, s)) (hB : B en s = some (.int j, s)) : (mOp (fAdd false) A B) en s = some (.int (i + j), s) := by
  unfold mOp
  rw [hA, b_some, hB, b_some]
  rfl
theorem opSub {A B : ME} {en : En} {s : Sto} {i j : Int} (hA : A en s = some (.int i, s)) (hB : B en s = some (.int j, s)) : (mOp fSub A B) en s = some (.int (i - j), s) := by
  unfold mOp
  rw [hA, b_some, hB, b_some]
  rfl
/-- what stands at places of a fair -/
structure Rs (rows : List Rw) : Prop where
  lo : 2 ≤ rows.length
  hi : rows.length ≤ 36
  nm : ∀ r ∈ rows, r.n.length ≤ 8
  mo : ∀ r ∈ rows, 0 ≤ r.m ∧ r.m ≤ 400
theorem Rs.rk {rows : List Rw} (R : Rs rows) : ∀ d ∈ rows.map Rw.d, Rk d := by
  intro d hd
  obtain ⟨r, hr, rfl⟩ := List.mem_map.mp hd
  exact row_rk (by have := R.nm r hr; omega)
theorem row_n (r : Rw) : atI [D.str r.n, .str r.g, .int r.m] 0 = some (.str r.n) := atI_0 _ _
theorem row_g (r : Rw) : atI [D.str r.n, .str r.g, .int r.m] 1 = some (.str r.g) := atI_1 _ _ _
theorem row_m (r : Rw) : atI [D.str r.n, .str r.g, .int r.m] 2 = some (.int r.m) := atI_2 _ _ _ _
def W0 (rows : List Rw) (nm : Str) : List D := [.lst (rows.map Rw.d), .non, .str "ann", .int 7, .bl true, .lst [], .str "", .int (-1), .int 0, .str nm]
theorem w0_tk (rows : List Rw) (nm : Str) : ∀ t ∈ W0 rows nm, Tk t := by
  intro t ht
  have hc : ∀ n, clo n (.lst (rows.map Rw.d)) = true := fun n => clos_map n _ (clo_row _) rows
  simp only [W0, List.mem_cons, List.not_mem_nil, or_false] at ht
  rcases ht with rfl | rfl | rfl | rfl | rfl | rfl | rfl | rfl | rfl | rfl
  · exact str_rk rfl rfl hc
  all_goals exact str_rk rfl rfl fun _ => rfl
theorem bent_ex (ns : List Int) (hn : ns.length ≤ 63) {gs : List Str} {hs : List (Str × Int)} (M : Mk gs hs) {S O : D} {rows : List Rw} (R : Rs rows) (st : Sto) : ∃ ts : List D, (∀ t ∈ ts, Tk t) ∧ ts.length ≤ 20 ∧ m__law_bent [scr ns, mk gs S O, .tup (rows.map Rw.d)] st = some (.lst ts, st) := by
  have lo := R.lo
  have hi := R.hi
  have hl : (rows.map Rw.d).length < 1000 := by rw [List.length_map]; omega
  let fr : D := .tup (rows.map Rw.d)
  let E : D → Option D → Option D → Option D → Option D → Option D → Option D → En := fun th a s b x y z => [some (scr ns), some (mk gs S O), some fr, some (.int rows.length), some th, a, s, b, x, y, z]
  obtain ⟨v0, p0, q0, d0⟩ := draw_ex ns hn (p := 30) (m := rows.length) (by omega) (by omega)
  obtain ⟨r0, hr0, e0⟩ := pickA Rw.d rows p0 q0
  obtain ⟨v1, p1, q1, d1⟩ := draw_ex ns hn (p := 31) (m := 10) (by omega) (by omega)
  obtain ⟨t0, e1, ht0⟩ := atI_mem (xs := W0 rows r0.n) (i := v1) p1 (by show v1 < ((10 : Nat) : Int); omega)
  obtain ⟨v2, p2, q2, d2⟩ := draw_ex ns hn (p := 32) (m := rows.length) (by omega) (by omega)
  obtain ⟨r2, hr2, e2⟩ := pickA Rw.d rows p2 q2
  obtain ⟨v3, p3, q3, d3⟩ := draw_ex ns hn (p := 33) (m := 22) (by omega) (by omega)
  obtain ⟨v4, p4, q4, d4⟩ := draw_ex ns hn (p := 34) (m := 22) (by omega) (by omega)
  obtain ⟨v5, p5, q5, d5⟩ := draw_ex ns hn (p := 35) (m := rows.length) (by omega) (by omega)
  obtain ⟨r5, hr5, e5⟩ := pickA Rw.d rows p5 q5
  obtain ⟨v6, p6, q6, d6⟩ := draw_ex ns hn (p := 36) (m := 29) (by omega) (by omega)
  obtain ⟨v7, p7, q7, d7⟩ := draw_ex ns hn (p := 37) (m := (rows.length : Int) - 1) (by omega) (by omega)
  obtain ⟨r7, hr7, e7⟩ := pickA Rw.d rows (v := 1 + v7) (by omega) (by omega)
  obtain ⟨r8, hr8, e8⟩ := pickA Rw.d rows (v := 1 + v7 - 1) (by omega) (by omega)
  obtain ⟨v9, p9, q9, d9⟩ := draw_ex ns hn (p := 38) (m := rows.length) (by omega) (by omega)
  obtain ⟨r9, hr9, e9⟩ := pickA Rw.d rows p9 q9
  obtain ⟨v10, p10, q10, d10⟩ := draw_ex ns hn (p := 39) (m := 8) (by omega) (by omega)
  obtain ⟨v11, p11, q11, d11⟩ := draw_ex ns hn (p := 40) (m := rows.length) (by omega) (by omega)
  obtain ⟨r11, hr11, e11⟩ := pickA Rw.d rows p11 q11
  obtain ⟨v12, p12, q12, d12⟩ := draw_ex ns hn (p := 41) (m := 5) (by omega) (by omega)
  have b0 : (mAsg (mCb fLen (mCons (mV 2) mNil)) (mgName 3)) [some (scr ns), some (mk gs S O), some fr, none, none, none, none, none, none, none, none] st = some (.nx [some (scr ns), some (mk gs S O), some fr, some (.int rows.length), none, none, none, none, none, none, none], st) := by
    have kf : (mCb fLen (mCons (mV 2) mNil)) [some (scr ns), some (mk gs S O), some fr, none, none, none, none, none, none, none, none] st = some (.int rows.length, st) := by
      show some (D.int ((rows.map Rw.d).length : Nat), st) = _
      rw [List.length_map]
    exact asgV kf
  have b1 : ms__law_bent_0 [some (scr ns), some (mk gs S O), some fr, some (.int rows.length), none, none, none, none, none, none, none] st = some (.nx [some (scr ns), some (mk gs S O), some fr, some (.int rows.length), none, none, none, none, some (.str r0.n), some (.str r0.g), some (.int r0.m)], st) := by
    unfold ms__law_bent_0
    have k := opIx (A := mV 2) (B := mCb m__law_draw (mCons (mV 0) (mCons (mC (.int 30)) (mCons (mV 3) mNil)))) (en := [some (scr ns), some (mk gs S O), some fr, some (.int rows.length), none, none, none, none, none, none, none]) (s := st) rfl (callDraw rfl rfl d0) e0
    unfold mAsg
    rw [k, b_some]
    unfold Rw.d
    walk_at "ev"
  let L : Int → Option D → Option D → Option D → En := fun a s b x => E (.loc st.length) (some (.int a)) s b x (some (.str r0.g)) (some (.int r0.m))
  have b2 : ms__law_bent_2 [some (scr ns), some (mk gs S O), some fr, some (.int rows.length), none, none, none, none, some (.str r0.n), some (.str r0.g), some (.int r0.m)] st = some (.nx (E (.loc st.length) none none none (some (.str r0.n)) (some (.str r0.g)) (some (.int r0.m))), st ++ [.lst [t0]]) := by
    unfold ms__law_bent_2
    have kl : (mLst false (mCons (mCb (fList false) (mCons (mV 2) mNil)) (mCons (mC .non) (mCons (mC (.str "ann")) (mCons (mC (.int 7)) (mCons (mC (.bl true)) (mCons (mLst false mNil) (mCons (mC (.str "")) (mCons (mUn fNeg (mC (.int 1))) (mCons (mC (.int 0)) (mCons (mV 8) mNil))))))))))) [some (scr ns), some (mk gs S O), some fr, some (.int rows.length), none, none, none, none, some (.str r0.n), some (.str r0.g), some (.int r0.m)] st = some (.lst (W0 rows r0.n), st) := by
      walk_at "ev"
      rw [show fList false [fr] st = some (.lst (rows.map Rw.d), st) from rfl]
      walk_at "ev"
      rw [if_pos (szle (by decide))]
      rfl
    have k := opIxL (B := mCb m__law_draw (mCons (mV 0) (mCons (mC (.int 31)) (mCons (mC (.int 10)) mNil)))) kl (callDraw rfl rfl d1) e1
    generalize (mOp fIx (mLst false (mCons (mCb (fList false) (mCons (mV 2) mNil)) (mCons (mC .non) (mCons (mC (.str "ann")) (mCons (mC (.int 7)) (mCons (mC (.bl true)) (mCons (mLst false mNil) (mCons (mC (.str "")) (mCons (mUn fNeg (mC (.int 1))) (mCons (mC (.int 0)) (mCons (mV 8) mNil))))))))))) (mCb m__law_draw (mCons (mV 0) (mCons (mC (.int 31)) (mCons (mC (.int 10)) mNil))))) = X at k ⊢
    walk_at "ev"
    rw [k]
    walk_at "ev"
    rfl
  have hv : ∀ {a s b x} (u : Sto), (mV 2) (L a s b x) u = some (fr, u) := fun u => rfl
  have b3 : ms__law_bent_4 (E (.loc st.length) none none none (some (.str r0.n)) (some (.str r0.g)) (some (.int r0.m))) (st ++ [.lst [t0]]) = some (.nx (L v2 none none (some (.str r0.n))), st ++ [.lst [t0]]) := by
    unfold ms__law_bent_4
    exact asgV (callDraw rfl rfl d2)
  obtain ⟨x4, kx4, y4⟩ := no_row_ex (r := r2) (by have := R.nm r2 hr2; omega) (R.mo r2 hr2) (v := v3) (by omega) (st ++ [.lst [t0]])
  let t1 : D := .tup (putL (rows.map Rw.d) v2.toNat x4)
  have b4 : ms__law_bent_6 (L v2 none none (some (.str r0.n))) (st ++ [.lst [t0]]) = some (.nx (L v2 none none (some (.str r0.n))), st ++ [.lst ([t0] ++ [t1])]) := by
    unfold ms__law_bent_6
    exact app_top rfl (cons1 (callPut (hv _) rfl (call2 (opIx (hv _) rfl e2) (callDraw rfl rfl d3) y4) p2 hl)) (by simp)
  obtain ⟨x5, kx5, y5⟩ := no_row_ex (r := r2) (by have := R.nm r2 hr2; omega) (R.mo r2 hr2) (v := v4) (by omega) (st ++ [.lst ([t0] ++ [t1])])
  let t2 : D := .tup (putL (rows.map Rw.d) v2.toNat x5)
  have b5 : ms__law_bent_8 (L v2 none none (some (.str r0.n))) (st ++ [.lst ([t0] ++ [t1])]) = some (.nx (L v2 none none (some (.str r0.n))), st ++ [.lst ([t0] ++ [t1] ++ [t2])]) := by
    unfold ms__law_bent_8
    exact app_top rfl (cons1 (callPut (hv _) rfl (call2 (opIx (hv _) rfl e2) (callDraw rfl rfl d4) y5) p2 hl)) (by simp)
  have b6 : ms__law_bent_10 (L v2 none none (some (.str r0.n))) (st ++ [.lst ([t0] ++ [t1] ++ [t2])]) = some (.nx (L v5 none none (some (.str r0.n))), st ++ [.lst ([t0] ++ [t1] ++ [t2])]) := by
    unfold ms__law_bent_10
    exact asgV (callDraw rfl rfl d5)
  obtain ⟨x7, kx7, y7⟩ := no_name_ex (r := r5) (R.nm r5 hr5) (v := v6) (by omega) (st ++ [.lst ([t0] ++ [t1] ++ [t2])])
  let t3 : D := .tup (putL (rows.map Rw.d) v5.toNat x7)
  have b7 : ms__law_bent_12 (L v5 none none (some (.str r0.n))) (st ++ [.lst ([t0] ++ [t1] ++ [t2])]) = some (.nx (L v5 none none (some (.str r0.n))), st ++ [.lst ([t0] ++ [t1] ++ [t2] ++ [t3])]) := by
    unfold ms__law_bent_12
    exact app_top rfl (cons1 (callPut (hv _) rfl (call2 (opIx (hv _) rfl e5) (callDraw rfl rfl d6) y7) p5 hl)) (by simp)
  have b8 : ms__law_bent_14 (L v5 none none (some (.str r0.n))) (st ++ [.lst ([t0] ++ [t1] ++ [t2] ++ [t3])]) = some (.nx (L (1 + v7) none none (some (.str r0.n))), st ++ [.lst ([t0] ++ [t1] ++ [t2] ++ [t3])]) := by
    unfold ms__law_bent_14
    exact asgV (opAdd rfl (callDraw rfl (opSub rfl rfl) d7))
  let w9 : Rw := ⟨r8.n, r7.g, r7.m⟩
  let t4 : D := .tup (putL (rows.map Rw.d) (1 + v7).toNat w9.d)
  have b9 : ms__law_bent_16 (L (1 + v7) none none (some (.str r0.n))) (st ++ [.lst ([t0] ++ [t1] ++ [t2] ++ [t3])]) = some (.nx (L (1 + v7) none none (some (.str r0.n))), st ++ [.lst ([t0] ++ [t1] ++ [t2] ++ [t3] ++ [t4])]) := by
    unfold ms__law_bent_16
    exact app_top rfl (cons1 (callPut (hv _) rfl (tup3 (opIx (opIx (hv _) (opSub rfl rfl) e8) rfl (row_n r8)) (opIx (opIx (hv _) rfl e7) rfl (row_g r7)) (opIx (opIx (hv _) rfl e7) rfl (row_m r7))) (by omega) hl)) (by simp)
  let t5 : D := .tup (putL (putL (rows.map Rw.d) (1 + v7).toNat r8.d) (1 + v7 - 1).toNat r7.d)
  have b10 : ms__law_bent_18 (L (1 + v7) none none (some (.str r0.n))) (st ++ [.lst ([t0] ++ [t1] ++ [t2] ++ [t3] ++ [t4])]) = some (.nx (L (1 + v7) none none (some (.str r0.n))), st ++ [.lst ([t0] ++ [t1] ++ [t2] ++ [t3] ++ [t4] ++ [t5])]) := by
    unfold ms__law_bent_18
    exact app_top rfl (cons1 (callPut (callPut (hv _) rfl (opIx (hv _) (opSub rfl rfl) e8) (by omega) hl) (opSub rfl rfl) (opIx (hv _) rfl e7) (by omega) (by rw [putL_len (by rw [List.length_map]; omega), List.length_map]; omega))) (by simp)
  have b11 : ms__law_bent_20 (L (1 + v7) none none (some (.str r0.n))) (st ++ [.lst ([t0] ++ [t1] ++ [t2] ++ [t3] ++ [t4] ++ [t5])]) = some (.nx (L v9 none none (some (.str r0.n))), st ++ [.lst ([t0] ++ [t1] ++ [t2] ++ [t3] ++ [t4] ++ [t5])]) := by
    unfold ms__law_bent_20
    exact asgV (callDraw rfl rfl d9)
  obtain ⟨s12, b12⟩ : ∃ s : Str, ms__law_bent_22 (L v9 none none (some (.str r0.n))) (st ++ [.lst ([t0] ++ [t1] ++ [t2] ++ [t3] ++ [t4] ++ [t5])]) = some (.nx (L v9 (some (.str s)) none (some (.str r0.n))), st ++ [.lst ([t0] ++ [t1] ++ [t2] ++ [t3] ++ [t4] ++ [t5])]) := by
    generalize st ++ [.lst ([t0] ++ [t1] ++ [t2] ++ [t3] ++ [t4] ++ [t5])] = u
    have gl : 0 < gs.length := List.length_pos_iff.mpr M.g0
    obtain ⟨ga, ha1, ha2⟩ := pickA D.str gs (v := 0) (by omega) (by omega)
    obtain ⟨gb, hb1, hb2⟩ := ix_neg1 (gs.map .str) (fun e => M.g0 (List.map_eq_nil_iff.mp e))
    obtain ⟨gb, hgb, rfl⟩ := List.mem_map.mp hb1
    have la := (M.gv ga ha1).len
    have lb := (M.gv gb hgb).len
    have l9 := R.nm r9 hr9
    have l1 : ∀ c : Nat, (⟨#[c]⟩ : Str).length = 1 := fun _ => rfl
    have n1 : ("_" : Str).length = 1 := by decide +kernel
    have n2 : ("x" : Str).length = 1 := by decide +kernel
    have n3 : (" " : Str).length = 1 := by decide +kernel
    let WS : List Str := ["", "zzzzzzzz0", "Corn", "none", ga ++ ("_" : Str), r9.n ++ ("x" : Str), "house", gb ++ (" " : Str)]
    obtain ⟨s, hs1, hs2⟩ := pickA D.str WS (v := v10) p10 (by show v10 < ((8 : Nat) : Int); omega)
    have k1 : (mOp fIx (mOp fIx (mV 1) (mC (.int 0))) (mC (.int 0))) (L v9 none none (some (.str r0.n))) u = some (.str ga, u) := opIx (opIx rfl rfl (atI_0 _ _)) rfl ha2
    have k2 : (mOp fIx (mOp fIx (mV 2) (mV 5)) (mC (.int 0))) (L v9 none none (some (.str r0.n))) u = some (.str r9.n, u) := opIx (opIx (hv _) rfl e9) rfl (row_n r9)
    have k3 : (mOp fIx (mOp fIx (mV 1) (mC (.int 0))) (mUn fNeg (mC (.int 1)))) (L v9 none none (some (.str r0.n))) u = some (.str gb, u) := opIx (opIx rfl rfl (atI_0 _ _)) rfl hb2
    have addS : ∀ {A : ME} {x y : Str}, A (L v9 none none (some (.str r0.n))) u = some (.str x, u) → x.length + y.length < 1000 → (mOp (fAdd false) A (mC (.str y))) (L v9 none none (some (.str r0.n))) u = some (.str (x ++ y), u) := by
      intro A x y hA hxy
      unfold mOp
      rw [hA, b_some]
      show fAdd false (.str x) (.str y) u = _
      rw [fAdd_str, if_pos (szle (by omega))]
    have j1 := addS (y := "_") k1 (by omega)
    have j2 := addS (y := "x") k2 (by omega)
    have j3 := addS (y := " ") k3 (by omega)
    have kl : (mLst false (mCons (mC (.str "")) (mCons (mC (.str "zzzzzzzz0")) (mCons (mC (.str "Corn")) (mCons (mC (.str "none")) (mCons (mOp (fAdd false) (mOp fIx (mOp fIx (mV 1) (mC (.int 0))) (mC (.int 0))) (mC (.str "_"))) (mCons (mOp (fAdd false) (mOp fIx (mOp fIx (mV 2) (mV 5)) (mC (.int 0))) (mC (.str "x"))) (mCons (mC (.str "house")) (mCons (mOp (fAdd false) (mOp fIx (mOp fIx (mV 1) (mC (.int 0))) (mUn fNeg (mC (.int 1)))) (mC (.str " "))) mNil))))))))) (L v9 none none (some (.str r0.n))) u = some (.lst (WS.map .str), u) := by
      generalize (mOp (fAdd false) (mOp fIx (mOp fIx (mV 1) (mC (.int 0))) (mC (.int 0))) (mC (.str "_"))) = A1 at j1 ⊢
      generalize (mOp (fAdd false) (mOp fIx (mOp fIx (mV 2) (mV 5)) (mC (.int 0))) (mC (.str "x"))) = A2 at j2 ⊢
      generalize (mOp (fAdd false) (mOp fIx (mOp fIx (mV 1) (mC (.int 0))) (mUn fNeg (mC (.int 1)))) (mC (.str " "))) = A3 at j3 ⊢
      simp only [mLst, mCons, mC, mNil, j1, j2, j3, b_some]
      rw [if_pos (szle (by simp))]
      rfl
    refine ⟨s, ?_⟩
    unfold ms__law_bent_22
    exact asgV (opIxL kl (callDraw rfl rfl d10) hs2)
  let w13 : Rw := ⟨r9.n, s12, r9.m⟩
  let t6 : D := .tup (putL (rows.map Rw.d) v9.toNat w13.d)
  have b13 : ms__law_bent_24 (L v9 (some (.str s12)) none (some (.str r0.n))) (st ++ [.lst ([t0] ++ [t1] ++ [t2] ++ [t3] ++ [t4] ++ [t5])]) = some (.nx (L v9 (some (.str s12)) none (some (.str r0.n))), st ++ [.lst ([t0] ++ [t1] ++ [t2] ++ [t3] ++ [t4] ++ [t5] ++ [t6])]) := by
    unfold ms__law_bent_24
    exact app_top rfl (cons1 (callPut (hv _) rfl (tup3 (opIx (opIx (hv _) rfl e9) rfl (row_n r9)) rfl (opIx (opIx (hv _) rfl e9) rfl (row_m r9))) p9 hl)) (by simp)
  have b14 : ms__law_bent_26 (L v9 (some (.str s12)) none (some (.str r0.n))) (st ++ [.lst ([t0] ++ [t1] ++ [t2] ++ [t3] ++ [t4] ++ [t5] ++ [t6])]) = some (.nx (L v11 (some (.str s12)) none (some (.str r0.n))), st ++ [.lst ([t0] ++ [t1] ++ [t2] ++ [t3] ++ [t4] ++ [t5] ++ [t6])]) := by
    unfold ms__law_bent_26
    exact asgV (callDraw rfl rfl d11)
  obtain ⟨z15, b15⟩ : ∃ z : Int, ms__law_bent_28 (L v11 (some (.str s12)) none (some (.str r0.n))) (st ++ [.lst ([t0] ++ [t1] ++ [t2] ++ [t3] ++ [t4] ++ [t5] ++ [t6])]) = some (.nx (L v11 (some (.str s12)) (some (.int z)) (some (.str r0.n))), st ++ [.lst ([t0] ++ [t1] ++ [t2] ++ [t3] ++ [t4] ++ [t5] ++ [t6])]) := by
    obtain ⟨z, hz1, hz2⟩ := pickA D.int [-1, -2, -400, -7, -12345678901234567890123456789] (v := v12) p12 (by show v12 < ((5 : Nat) : Int); omega)
    refine ⟨z, ?_⟩
    unfold ms__law_bent_28
    exact asgV (opIxL (by walk_at "ev") (callDraw rfl rfl d12) hz2)
  let w16 : Rw := ⟨r11.n, r11.g, z15⟩
  let t7 : D := .tup (putL (rows.map Rw.d) v11.toNat w16.d)
  have b16 : ms__law_bent_30 (L v11 (some (.str s12)) (some (.int z15)) (some (.str r0.n))) (st ++ [.lst ([t0] ++ [t1] ++ [t2] ++ [t3] ++ [t4] ++ [t5] ++ [t6])]) = some (.nx (L v11 (some (.str s12)) (some (.int z15)) (some (.str r0.n))), st ++ [.lst ([t0] ++ [t1] ++ [t2] ++ [t3] ++ [t4] ++ [t5] ++ [t6] ++ [t7])]) := by
    unfold ms__law_bent_30
    exact app_top rfl (cons1 (callPut (hv _) rfl (tup3 (opIx (opIx (hv _) rfl e11) rfl (row_n r11)) (opIx (opIx (hv _) rfl e11) rfl (row_g r11)) rfl) p11 hl)) (by simp)
  have rk8 : Rk r8.d := row_rk (by have := R.nm r8 hr8; omega)
  have rk7 : Rk r7.d := row_rk (by have := R.nm r7 hr7; omega)
  have all : ∀ t ∈ [t0] ++ [t1] ++ [t2] ++ [t3] ++ [t4] ++ [t5] ++ [t6] ++ [t7], Tk t := by
    intro t ht
    simp only [List.cons_append, List.nil_append, List.mem_cons, List.not_mem_nil, or_false] at ht
    rcases ht with e | e | e | e | e | e | e | e <;> rw [e]
    · exact w0_tk rows r0.n t0 ht0
    · exact tup_tk (put_rk R.rk kx4)
    · exact tup_tk (put_rk R.rk kx5)
    · exact tup_tk (put_rk R.rk kx7)
    · exact tup_tk (put_rk R.rk (row_rk (r := w9) (by have := R.nm r8 hr8; show r8.n.length < 10000; omega)))
    · exact tup_tk (put_rk (put_rk R.rk rk8) rk7)
    · exact tup_tk (put_rk R.rk (row_rk (r := w13) (by have := R.nm r9 hr9; show r9.n.length < 10000; omega)))
    · exact tup_tk (put_rk R.rk (row_rk (r := w16) (by have := R.nm r11 hr11; show r11.n.length < 10000; omega)))
  refine ⟨_, all, by simp, mDef_ext (st' := st ++ [.dead]) rfl ((mSeq_nx b0).trans ((mSeq_nx b1).trans ((mSeq_nx b2).trans ((mSeq_nx b3).trans ((mSeq_nx b4).trans ((mSeq_nx b5).trans ((mSeq_nx b6).trans ((mSeq_nx b7).trans ((mSeq_nx b8).trans ((mSeq_nx b9).trans ((mSeq_nx b10).trans ((mSeq_nx b11).trans ((mSeq_nx b12).trans ((mSeq_nx b13).trans ((mSeq_nx b14).trans ((mSeq_nx b15).trans ((mSeq_nx b16).trans ?_))))))))))))))))) (clos_all fun t ht => (all t ht).cl _) ⟨_, rfl⟩⟩
  unfold mRet
  rw [frz_top (m := mV 4) (en := L v11 (some (.str s12)) (some (.int z15)) (some (.str r0.n))) rfl, b_some]
end K21


namespace K21
open PySem PySem.Spec PyProof.Rows L2 My
local macro_rules | `(tactic| walk_at "ev") => `(tactic| try simp only [mDef, mSeq, mAsg, mV_eq, mC, mOp, mUn, mCb, mNil, mCons, mTup, mIfS, mTB, mT, mRet, mNext, mgTup, mgCons, mgNil, mgT, mgName, setTg, setTgs, mIf, mAnd, mOr, mNot, mAndV, mOrV, mNotV, fB, fLt_int, fLe, fGt, fGe, fAdd_int, fSub_int, fMod_int, fDiv_int, fMul_int, fNeg_int, fIn_tup, fIn_lst, settle_same, fIx, look_tup, look_d, look_lst, look_fro, lookL_lst, atI_0, atI_1, atI_2, atI_3, fLen_tup, fLen_lst, miSeq, srcOf, mPar, mAug, mRetN, fTuple_lst, fTuple_tup, alloc_f, fEq_int, fMaxL_2, fMinL_2, fSorted_ints, fIsN_int, fIsN_non, fNe_int, mDrop, wipeE, mYes, My.isNon, miRng1, miRng2, fInt_int, truD, fShl_int, fPow_int, fAbs_int, fEq_bl, fIsi_tt, fIsi_it, fIsi_ii, fIsi_ib, fIsi_bt, fIsi_bi, fIsi_bb, fIsi_tb, fIsi_ti, last_concat, List.dropLast_concat, look_loc, lookL_loc, fLen_loc, ixN_0, ixN_1, ixN_2, ixN_3, fSetL_loc, fAppend_loc, fPop_loc, fExtend_loc, mgSub, mMt, alloc_t, mFrz, mSl, mRev, mNone, mSome, mLst, fNeg, fSet_tup, fSet_lst, fInS_int, fSortS_set, fAll_lst, fAdd_tup, fEq_str, fNe_str, fIsN_str, fIsN_bl, fIsN_tup, fIsN_lst, fIsi_si, fIsi_ss, fIsi_sb, fIsi_st, fIsi_ts, fIsB_non, fIsB_int, fIsB_str, fIsB_tup, fIsB_bl, fAdd_str, fTuple_loc, fLen_fro, mNotT, mCV, mBreak, mCont, z0, z1, z2, z3, z4, z5, z6, z7, z8, z9, List.lookup_cons,
  b_some, b_none, m_some, Option.join_some, List.getElem?_cons_zero, List.getElem?_cons_succ, List.set_cons_zero, List.set_cons_succ, List.map_cons, List.map_nil, List.length_cons, List.length_nil, List.replicate, List.cons_append, List.nil_append, Nat.reduceAdd, Nat.reduceSub, if_true, if_false, reduceIte, reduceCtorEq, ite_bind, Bool.false_eq_true, decide_eq_true_eq, List.length_map, decide_true, decide_false, Bool.not_true, Bool.not_false])
local macro_rules | `(tactic| walk_at "nx") => `(tactic| (refine (mSeq_nx (by (walk_at "ev"; rfl))).trans ?_))
theorem rk3 {n g : Str} {x : D} (h : n.length < 10000) (hx : pl x = true) (hc : ∀ k, clo k x = true) : Rk (.tup [.str n, .str g, x]) := ⟨⟨rfl, fun xs e y hy => by
  cases e
  simp only [List.mem_cons, List.not_mem_nil, or_false] at hy
  rcases hy with rfl | rfl | rfl
  · rfl
  · rfl
  · exact hx, fun m xs e => by cases e; exact h⟩, fun k => by
  show (true && (true && (clo k x && true))) = true
  rw [hc]
  rfl⟩
theorem rk2 {n g : Str} (h : n.length < 10000) : Rk (.tup [.str n, .str g]) := ⟨⟨rfl, fun xs e y hy => by
  cases e
  simp only [List.mem_cons, List.not_mem_nil, or_false] at hy
  rcases hy with rfl | rfl <;> rfl, fun m xs e => by cases e; exact h⟩, fun k => rfl⟩
theorem ixTop {i : Nat} {en : En} {st : Sto} {es : List D} {x : D} (he : en[i]? = some (some (.loc st.length))) (h : atI es 0 = some x) : (mOp fIx (mV i) (mC (.int 0))) en (st ++ [.lst es]) = some (x, st ++ [.lst es]) := by
  unfold mOp mC
  rw [mV_at he, b_some, b_some]
  dsimp only
  rw [fIx, lookA_top, b_some, h, m_some]
theorem tup2 {A B : ME} {en : En} {s : Sto} {a b : D} (hA : A en s = some (a, s)) (hB : B en s = some (b, s)) : mTup (mCons A (mCons B mNil)) en s = some (.tup [a, b], s) := by
  unfold mTup mCons mNil
  rw [hA, b_some, hB, b_some, b_some, b_some, b_some]
  dsimp only
  rw [if_pos (szle (by simp))]
theorem lst_cons {A : ME} {r : MA} {en : En} {s : Sto} {a : D} {ds : List D} (hA : A en s = some (a, s)) (hr : r en s = some (ds, s)) : mCons A r en s = some (a :: ds, s) := by
  unfold mCons
  rw [hA, b_some, hr, b_some]
theorem lst_mk {m : MA} {en : En} {s : Sto} {ds : List D} (h : m en s = some (ds, s)) (hl : ds.length < 10000) : mLst false m en s = some (.lst ds, s) := by
  unfold mLst
  rw [h, b_some]
  dsimp only
  rw [if_pos (szle (by omega))]
  rfl
def RW (a n g : Str) (m : Int) : List D := [.tup [.str "from", .str "", .int (-1)], .tup [.str a, .str "", .int m], .tup [.str a, .str g, .int (-1)], .tup [.str n, .str "", .int (-1)], .tup [.str n, .str "none", .bl true], .tup [.str "Up", .str g, .int (-3)], .tup [.str a, .str "", .int (-2)], .tup [.str "Up", .str "", .non]]
theorem rw_rk {a n : Str} (ha : a.length ≤ 8) (hn : n.length ≤ 8) (g : Str) (m : Int) : ∀ d ∈ RW a n g m, Rk d := by
  intro d hd
  have h1 : ("from" : Str).length < 10000 := by decide +kernel
  have h2 : ("Up" : Str).length < 10000 := by decide +kernel
  simp only [RW, List.mem_cons, List.not_mem_nil, or_false] at hd
  rcases hd with rfl | rfl | rfl | rfl | rfl | rfl | rfl | rfl
  · exact rk3 h1 rfl fun _ => rfl
  · exact rk3 (by omega) rfl fun _ => rfl
  · exact rk3 (by omega) rfl fun _ => rfl
  · exact rk3 (by omega) rfl fun _ => rfl
  · exact rk3 (by omega) rfl fun _ => rfl
  · exact rk3 h2 rfl fun _ => rfl
  · exact rk3 (by omega) rfl fun _ => rfl
  · exact rk3 h2 rfl fun _ => rfl
def RV (a g : Str) : List D := [.tup [.str a, .str g, .int (-1)], .tup [.str "Up", .str g, .int 1], .tup [.str a, .str "", .int 1], .tup [.str a, .str g]]
theorem rv_rk {a : Str} (ha : a.length ≤ 8) (g : Str) : ∀ d ∈ RV a g, Rk d := by
  intro d hd
  have h2 : ("Up" : Str).length < 10000 := by decide +kernel
  simp only [RV, List.mem_cons, List.not_mem_nil, or_false] at hd
  rcases hd with rfl | rfl | rfl | rfl
  · exact rk3 (by omega) rfl fun _ => rfl
  · exact rk3 h2 rfl fun _ => rfl
  · exact rk3 (by omega) rfl fun _ => rfl
  · exact rk2 (by omega)
theorem two_ex (ns : List Int) (hn : ns.length ≤ 63) {mkt : D} {rows : List Rw} (R : Rs rows) (st : Sto) : ∃ ts : List D, (∀ t ∈ ts, Tk t) ∧ ts.length ≤ 20 ∧ m__law_two [scr ns, mkt, .tup (rows.map Rw.d)] st = some (.lst ts, st) := by
  have lo := R.lo
  have hi := R.hi
  have hl : (rows.map Rw.d).length < 1000 := by rw [List.length_map]; omega
  let fr : D := .tup (rows.map Rw.d)
  let E : Option D → Option D → Option D → Option D → Option D → Option D → Option D → Option D → En := fun a h r t o x y z => [some (scr ns), some mkt, some fr, some (.int rows.length), a, h, r, t, o, x, y, z]
  obtain ⟨v0, p0, q0, d0⟩ := draw_ex ns hn (p := 42) (m := (rows.length : Int) - 1) (by omega) (by omega)
  obtain ⟨r0, hr0, e0⟩ := pickA Rw.d rows (v := 1 + v0) (by omega) (by omega)
  obtain ⟨r1, hr1, e1⟩ := pickA Rw.d rows (v := 1 + v0 - 1) (by omega) (by omega)
  obtain ⟨v2, p2, q2, d2⟩ := draw_ex ns hn (p := 43) (m := 8) (by omega) (by omega)
  obtain ⟨x2, e2, hx2⟩ := atI_mem (xs := RW r1.n r0.n r0.g r0.m) (i := v2) p2 (by show v2 < ((8 : Nat) : Int); omega)
  obtain ⟨v3, p3, q3, d3⟩ := draw_ex ns hn (p := 44) (m := rows.length) (by omega) (by omega)
  obtain ⟨r3, hr3, e3⟩ := pickA Rw.d rows p3 q3
  obtain ⟨v4, p4, q4, d4⟩ := draw_ex ns hn (p := 45) (m := 4) (by omega) (by omega)
  obtain ⟨x4, e4, hx4⟩ := atI_mem (xs := RV r3.n r0.g) (i := v4) p4 (by show v4 < ((4 : Nat) : Int); omega)
  have kx2 := rw_rk (R.nm r1 hr1) (R.nm r0 hr0) r0.g r0.m x2 hx2
  have kx4 := rv_rk (R.nm r3 hr3) r0.g x4 hx4
  let N : Option D := some (.int (1 + v0))
  have b0 : (mAsg (mCb fLen (mCons (mV 2) mNil)) (mgName 3)) [some (scr ns), some mkt, some fr, none, none, none, none, none, none, none, none, none] st = some (.nx (E none none none none none none none none), st) := by
    have kf : (mCb fLen (mCons (mV 2) mNil)) [some (scr ns), some mkt, some fr, none, none, none, none, none, none, none, none, none] st = some (.int rows.length, st) := by
      show some (D.int ((rows.map Rw.d).length : Nat), st) = _
      rw [List.length_map]
    exact asgV kf
  have b1 : ms__law_two_0 (E none none none none none none none none) st = some (.nx (E N none none none none none none none), st) := by
    unfold ms__law_two_0
    exact asgV (opAdd rfl (callDraw rfl (opSub rfl rfl) d0))
  have b2 : ms__law_two_2 (E N none none none none none none none) st = some (.nx (E N none none none none (some (.str r0.n)) (some (.str r0.g)) (some (.int r0.m))), st) := by
    unfold ms__law_two_2
    have k := opIx (A := mV 2) (B := mV 4) (en := E N none none none none none none none) (s := st) rfl rfl e0
    unfold mAsg
    rw [k, b_some]
    unfold Rw.d
    walk_at "ev"
    rfl
  let F : Option D → Option D → Option D → Option D → En := fun h r t o => E N h r t o (some (.str r0.n)) (some (.str r0.g)) (some (.int r0.m))
  have b3 : (mAsg (mOp fIx (mOp fIx (mV 2) (mOp fSub (mV 4) (mC (.int 1)))) (mC (.int 0))) (mgName 5)) (F none none none none) st = some (.nx (F (some (.str r1.n)) none none none), st) := asgV (opIx (opIx rfl (opSub rfl rfl) e1) rfl (row_n r1))
  have b4 : ms__law_two_4 (F (some (.str r1.n)) none none none) st = some (.nx (F (some (.str r1.n)) (some (.lst (RW r1.n r0.n r0.g r0.m))) none none), st) := by
    unfold ms__law_two_4
    refine asgV (lst_mk (ds := RW r1.n r0.n r0.g r0.m) ?_ (by simp [RW]))
    exact lst_cons (tup3 rfl rfl rfl) (lst_cons (tup3 rfl rfl rfl) (lst_cons (tup3 rfl rfl rfl) (lst_cons (tup3 rfl rfl rfl) (lst_cons (tup3 rfl rfl rfl) (lst_cons (tup3 rfl rfl rfl) (lst_cons (tup3 rfl rfl rfl) (lst_cons (tup3 rfl rfl rfl) rfl)))))))
  let t0L : List D := putL (rows.map Rw.d) (1 + v0).toNat x2
  have l0 : t0L.length = rows.length := by rw [putL_len (by rw [List.length_map]; omega), List.length_map]
  let G : Option D → En := fun o => F (some (.str r1.n)) (some (.lst (RW r1.n r0.n r0.g r0.m))) (some (.loc st.length)) o
  have b5 : ms__law_two_6 (F (some (.str r1.n)) (some (.lst (RW r1.n r0.n r0.g r0.m))) none none) st = some (.nx (G none), st ++ [.lst [.tup t0L]]) := by
    unfold ms__law_two_6
    have k : (mCb m__law_put (mCons (mV 2) (mCons (mV 4) (mCons (mOp fIx (mV 6) (mCb m__law_draw (mCons (mV 0) (mCons (mC (.int 43)) (mCons (mC (.int 8)) mNil))))) mNil)))) (F (some (.str r1.n)) (some (.lst (RW r1.n r0.n r0.g r0.m))) none none) st = some (.tup t0L, st) := callPut rfl rfl (opIxL rfl (callDraw rfl rfl d2) e2) (by omega) hl
    generalize (mCb m__law_put (mCons (mV 2) (mCons (mV 4) (mCons (mOp fIx (mV 6) (mCb m__law_draw (mCons (mV 0) (mCons (mC (.int 43)) (mCons (mC (.int 8)) mNil))))) mNil)))) = X at k ⊢
    unfold mAsg mLst mCons mNil
    rw [k, b_some, b_some, b_some]
    dsimp only
    rw [if_pos (szle (by simp))]
    rfl
  have b6 : ms__law_two_8 (G none) (st ++ [.lst [.tup t0L]]) = some (.nx (G (some (.int v3))), st ++ [.lst [.tup t0L]]) := by
    unfold ms__law_two_8
    exact asgV (callDraw rfl rfl d3)
  let t1L : List D := putL t0L v3.toNat x4
  have b7 : ms__law_two_10 (G (some (.int v3))) (st ++ [.lst [.tup t0L]]) = some (.nx (G (some (.int v3))), st ++ [.lst ([.tup t0L] ++ [.tup t1L])]) := by
    unfold ms__law_two_10
    have kn : (mOp fIx (mOp fIx (mV 2) (mV 8)) (mC (.int 0))) (G (some (.int v3))) (st ++ [.lst [.tup t0L]]) = some (.str r3.n, st ++ [.lst [.tup t0L]]) := opIx (opIx rfl rfl e3) rfl (row_n r3)
    have kl : mCons (mTup (mCons (mOp fIx (mOp fIx (mV 2) (mV 8)) (mC (.int 0))) (mCons (mV 10) (mCons (mUn fNeg (mC (.int 1))) mNil)))) (mCons (mTup (mCons (mC (.str "Up")) (mCons (mV 10) (mCons (mC (.int 1)) mNil)))) (mCons (mTup (mCons (mOp fIx (mOp fIx (mV 2) (mV 8)) (mC (.int 0))) (mCons (mC (.str "")) (mCons (mC (.int 1)) mNil)))) (mCons (mTup (mCons (mOp fIx (mOp fIx (mV 2) (mV 8)) (mC (.int 0))) (mCons (mV 10) mNil))) mNil))) (G (some (.int v3))) (st ++ [.lst [.tup t0L]]) = some (RV r3.n r0.g, st ++ [.lst [.tup t0L]]) := lst_cons (tup3 kn rfl rfl) (lst_cons (tup3 rfl rfl rfl) (lst_cons (tup3 kn rfl rfl) (lst_cons (tup2 kn rfl) rfl)))
    exact app_top rfl (cons1 (callPut (ixTop rfl (atI_0 _ _)) rfl (opIxL (lst_mk kl (by simp [RV])) (callDraw rfl rfl d4) e4) p3 (by omega))) (by simp)
  have b8 : (mDrop (mMt fAppend (mV 7) (mCons (mCb (fList false) (mCons (mOp fIx (mV 7) (mC (.int 0))) mNil)) mNil))) (G (some (.int v3))) (st ++ [.lst ([.tup t0L] ++ [.tup t1L])]) = some (.nx (G (some (.int v3))), st ++ [.lst ([.tup t0L] ++ [.tup t1L] ++ [.lst t0L])]) := by
    have k : (mCb (fList false) (mCons (mOp fIx (mV 7) (mC (.int 0))) mNil)) (G (some (.int v3))) (st ++ [.lst ([.tup t0L] ++ [.tup t1L])]) = some (.lst t0L, st ++ [.lst ([.tup t0L] ++ [.tup t1L])]) := by
      have kc := cons1 (ixTop (i := 7) (en := G (some (.int v3))) (st := st) (es := [.tup t0L] ++ [.tup t1L]) (x := .tup t0L) rfl (atI_0 _ _))
      unfold mCb
      rw [kc, b_some]
      rfl
    exact app_top rfl (cons1 k) (by simp)
  have rk0 : ∀ d ∈ t0L, Rk d := put_rk R.rk kx2
  have rk1 : ∀ d ∈ t1L, Rk d := put_rk rk0 kx4
  have all : ∀ t ∈ [D.tup t0L] ++ [.tup t1L] ++ [.lst t0L], Tk t := by
    intro t ht
    simp only [List.cons_append, List.nil_append, List.mem_cons, List.not_mem_nil, or_false] at ht
    rcases ht with e | e | e <;> rw [e]
    · exact tup_tk rk0
    · exact tup_tk rk1
    · exact str_rk rfl rfl fun n => clos_all fun d hd => (rk0 d hd).cl n
  refine ⟨_, all, by simp, mDef_ext (st' := st ++ [.dead]) rfl ((mSeq_nx b0).trans ((mSeq_nx b1).trans ((mSeq_nx b2).trans ((mSeq_nx b3).trans ((mSeq_nx b4).trans ((mSeq_nx b5).trans ((mSeq_nx b6).trans ((mSeq_nx b7).trans ((mSeq_nx b8).trans ?_))))))))) (clos_all fun t ht => (all t ht).cl _) ⟨_, rfl⟩⟩
  unfold mRet
  rw [frz_top (m := mV 7) (en := G (some (.int v3))) rfl, b_some]
end K21


namespace K21
open PySem PySem.Spec PyProof.Rows L2 My
local macro_rules | `(tactic| walk_at "ev") => `(tactic| try simp only [mDef, mSeq, mAsg, mV_eq, mC, mOp, mUn, mCb, mNil, mCons, mTup, mIfS, mTB, mT, mRet, mNext, mgTup, mgCons, mgNil, mgT, mgName, setTg, setTgs, mIf, mAnd, mOr, mNot, mAndV, mOrV, mNotV, fB, fLt_int, fLe, fGt, fGe, fAdd_int, fSub_int, fMod_int, fDiv_int, fMul_int, fNeg_int, fIn_tup, fIn_lst, settle_same, fIx, look_tup, look_d, look_lst, look_fro, lookL_lst, atI_0, atI_1, atI_2, atI_3, fLen_tup, fLen_lst, miSeq, srcOf, mPar, mAug, mRetN, fTuple_lst, fTuple_tup, alloc_f, fEq_int, fMaxL_2, fMinL_2, fSorted_ints, fIsN_int, fIsN_non, fNe_int, mDrop, wipeE, mYes, My.isNon, miRng1, miRng2, fInt_int, truD, fShl_int, fPow_int, fAbs_int, fEq_bl, fIsi_tt, fIsi_it, fIsi_ii, fIsi_ib, fIsi_bt, fIsi_bi, fIsi_bb, fIsi_tb, fIsi_ti, last_concat, List.dropLast_concat, look_loc, lookL_loc, fLen_loc, ixN_0, ixN_1, ixN_2, ixN_3, fSetL_loc, fAppend_loc, fPop_loc, fExtend_loc, mgSub, mMt, alloc_t, mFrz, mSl, mRev, mNone, mSome, mLst, fNeg, fSet_tup, fSet_lst, fInS_int, fSortS_set, fAll_lst, fAdd_tup, fEq_str, fNe_str, fIsN_str, fIsN_bl, fIsN_tup, fIsN_lst, fIsi_si, fIsi_ss, fIsi_sb, fIsi_st, fIsi_ts, fIsB_non, fIsB_int, fIsB_str, fIsB_tup, fIsB_bl, fAdd_str, fTuple_loc, fLen_fro, mNotT, mCV, mBreak, mCont, z0, z1, z2, z3, z4, z5, z6, z7, z8, z9, List.lookup_cons,
  b_some, b_none, m_some, Option.join_some, List.getElem?_cons_zero, List.getElem?_cons_succ, List.set_cons_zero, List.set_cons_succ, List.map_cons, List.map_nil, List.length_cons, List.length_nil, List.replicate, List.cons_append, List.nil_append, Nat.reduceAdd, Nat.reduceSub, if_true, if_false, reduceIte, reduceCtorEq, ite_bind, Bool.false_eq_true, decide_eq_true_eq, List.length_map, decide_true, decide_false, Bool.not_true, Bool.not_false])
local macro_rules | `(tactic| walk_at "nx") => `(tactic| (refine (mSeq_nx (by (walk_at "ev"; rfl))).trans ?_))
theorem call1 {f : List D → Sto → Option (D × Sto)} {A : ME} {en : En} {s : Sto} {a d : D} (hA : A en s = some (a, s)) (h : f [a] s = some (d, s)) : (mCb f (mCons A mNil)) en s = some (d, s) := by
  unfold mCb mCons mNil
  rw [hA, b_some, b_some, b_some]
  exact h
theorem retV {A : ME} {en : En} {s : Sto} {d : D} (h : A en s = some (d, s)) : mRet A en s = some (.rt d, s) := by
  unfold mRet
  rw [h, b_some]
def heldD (rows : List Rw) (n : Str) : D := match rows.find? (nmR n) with
  | some r => .tup [.str "told", hd r.g r.m]
  | none => .tup [.str "refused", .str "trader", .str n]
def exN (n : Str) : Ex := ⟨"NoSuch", [("name", .str n), ("word", .str "trader")]⟩
theorem hold_eq (rows : List Rw) (n : Str) (st : Sto) : mx_holding_of [.tup (rows.map Rw.d), .str n] st = some (match rows.find? (nmR n) with | some r => .ok (hd r.g r.m) | none => .ex (exN n), st) := by
  have a1 : ms_holding_of_0 [some (.tup (rows.map Rw.d)), some (.str n), none] st = some (.nx [some (.tup (rows.map Rw.d)), some (.str n), some (hdO (rows.find? (nmR n)))], st) := by
    unfold ms_holding_of_0
    exact asgV (call2 rfl rfl (found_eq rows n st))
  cases hf : rows.find? (nmR n) with
  | some r =>
    rw [hf] at a1
    refine mDefX_ext (st' := st) rfl ((seqX_nx (lS_o a1)).trans ((seqX_nx (en' := [some (.tup (rows.map Rw.d)), some (.str n), some (hd r.g r.m)]) (st' := st) ((ifX_f (st1 := st) rfl).trans rfl)).trans (lS_o rfl))) rfl ⟨[], (List.append_nil _).symm⟩
  | none =>
    rw [hf] at a1
    exact mDefX_ex (en' := [some (.tup (rows.map Rw.d)), some (.str n), some .non]) rfl ((seqX_nx (lS_o a1)).trans (seqX_ex ((ifX_t (st1 := st) rfl).trans rfl))) rfl ⟨[], (List.append_nil _).symm⟩
theorem held_eq (rows : List Rw) (n : Str) (st : Sto) : m__law_held [.tup (rows.map Rw.d), .str n] st = some (heldD rows n, st) := by
  have hx : callX mx_holding_of (consX (lE (mV 0)) (consX (lE (mV 1)) nilX)) [some (.tup (rows.map Rw.d)), some (.str n), none, none] st = mx_holding_of [.tup (rows.map Rw.d), .str n] st :=
    callX_of (consX_of (lE_o (mV_at rfl)) (consX_of (lE_o (mV_at rfl)) nilX_of))
  rw [hold_eq] at hx
  refine mDef_rt rfl ?_
  unfold heldD
  cases hf : rows.find? (nmR n) with
  | some r =>
    rw [hf] at hx
    refine (mSeq_nx (en' := [some (.tup (rows.map Rw.d)), some (.str n), none, some (hd r.g r.m)]) (st' := st) ?_).trans rfl
    unfold ms__law_held_0
    refine tryX_o ?_
    unfold asgX
    rw [show callX mx_holding_of (consX (lE (mV 0)) (consX (lE (mV 1)) nilX)) (List.map some [D.tup (rows.map Rw.d), .str n] ++ List.replicate (4 - [D.tup (rows.map Rw.d), .str n].length) none) st = _ from hx]
    rfl
  | none =>
    rw [hf] at hx
    refine mSeq_rt ?_
    unfold ms__law_held_0
    refine tryX_ex (en' := [some (.tup (rows.map Rw.d)), some (.str n), none, none]) (x := exN n) (st1 := st) ?_ ?_
    · unfold asgX
      rw [show callX mx_holding_of (consX (lE (mV 0)) (consX (lE (mV 1)) nilX)) (List.map some [D.tup (rows.map Rw.d), .str n] ++ List.replicate (4 - [D.tup (rows.map Rw.d), .str n].length) none) st = _ from hx]
      rfl
    · rfl
theorem heldD_in {rows : List Rw} (nd : (rows.map (·.n)).Nodup) {r : Rw} (hr : r ∈ rows) : heldD rows r.n = .tup [.str "told", hd r.g r.m] := by
  unfold heldD
  rw [find_uniq nd hr rfl]
theorem heldD_out {rows : List Rw} {n : Str} (h : ∀ r ∈ rows, r.n ≠ n) : heldD rows n = .tup [.str "refused", .str "trader", .str n] := by
  unfold heldD
  rw [List.find?_eq_none.mpr fun r hr e => h r hr (of_decide_eq_true e)]
theorem same_bl (b : Bool) (st : Sto) : m__law_same 5 [.bl b, .bl b] st = some (.bl true, st) := by
  show mDef 4 2 (mb__law_same (m__law_same 4)) [.bl b, .bl b] st = _
  refine mDef_rt rfl ?_
  unfold mb__law_same
  cases b with
  | true =>
    refine (mSeq_nx (en' := [some (.bl true), some (.bl true), none, none]) (st' := st) rfl).trans (mSeq_rt ?_)
    rfl
  | false =>
    refine (mSeq_nx (en' := [some (.bl false), some (.bl false), none, none]) (st' := st) rfl).trans ((mSeq_nx (en' := [some (.bl false), some (.bl false), none, none]) (st' := st) rfl).trans (mSeq_rt ?_))
    rfl
theorem start_eq {gs : List Str} {hs : List (Str × Int)} {O : D} (hx : ∀ x ∈ hs, Nm x.1) {rows : List Rw} (hl : rows.length < 1000) (hg : ∀ r ∈ rows, Nm r.g) (st : Sto) : m_is_start_fair [mk gs (.tup (hs.map hdd)) O, .tup (rows.map Rw.d)] st = some (.bl (rows.all fun r => decide ((r.g, r.m) ∈ hs)), st) := by
  refine mDef_rt rfl ?_
  have hm : miSeq (mV 1) [some (mk gs (.tup (hs.map hdd)) O), some (.tup (rows.map Rw.d)), none, none, none] st = some (⟨rows.map Rw.d, none⟩, st) := rfl
  have lc := lc_A (mu := false) (T := .tup [(.name 2), (.name 3), (.name 4)]) (tt := mYes) (te := (mOp (fInU false) (mTup (mCons (mV 3) (mCons (mV 4) mNil))) (mOp fIx (mV 0) (mC (.int 1))))) (vs := [2, 3, 4]) hm (fun _ => true) (fun r => .bl (decide ((r.g, r.m) ∈ hs))) trivial (by omega) (by
    intro r hr
    refine ⟨[some (mk gs (.tup (hs.map hdd)) O), some (.tup (rows.map Rw.d)), some (.str r.n), some (.str r.g), some (.int r.m)], rfl, rfl, fun _ => ?_⟩
    have k := opIx (A := mV 0) (B := mC (.int 1)) (en := [some (mk gs (.tup (hs.map hdd)) O), some (.tup (rows.map Rw.d)), some (.str r.n), some (.str r.g), some (.int r.m)]) (s := st) rfl rfl (atI_1 _ _ _)
    have t := tup2 (A := mV 3) (B := mV 4) (a := .str r.g) (b := .int r.m) (en := [some (mk gs (.tup (hs.map hdd)) O), some (.tup (rows.map Rw.d)), some (.str r.n), some (.str r.g), some (.int r.m)]) (s := st) rfl rfl
    generalize (mTup (mCons (mV 3) (mCons (mV 4) mNil))) = T at t ⊢
    generalize (mOp fIx (mV 0) (mC (.int 1))) = K at k ⊢
    unfold mOp
    rw [t, b_some, k, b_some]
    dsimp only
    rw [fInU_hdd false hx (hg r hr)]
    rfl)
  rw [List.filter_eq_self.mpr fun _ _ => rfl] at lc
  have e : (rows.map fun r => D.bl (decide ((r.g, r.m) ∈ hs))) = (rows.map fun r => decide ((r.g, r.m) ∈ hs)).map D.bl := by rw [List.map_map]; rfl
  have al : fAll [.lst (rows.map fun r => D.bl (decide ((r.g, r.m) ∈ hs)))] st = some (.bl (rows.all fun r => decide ((r.g, r.m) ∈ hs)), st) := by
    rw [e, fAll_lst, List.all_map]
    rfl
  unfold ms_is_start_fair_0
  exact retV (call1 lc al)
theorem fSum_int (ns : List Int) (st : Sto) : fSum [.lst (ns.map D.int)] st = some (.int ns.sum, st) := by
  unfold fSum
  dsimp only
  rw [lookL_lst, b_some, intsOf_map, m_some]
theorem total_eq {rows : List Rw} (hl : rows.length < 1000) (st : Sto) : m_total_money [.tup (rows.map Rw.d)] st = some (.int (rows.map (·.m)).sum, st) := by
  refine mDef_rt rfl ?_
  have hm : miSeq (mV 0) [some (.tup (rows.map Rw.d)), none, none, none] st = some (⟨rows.map Rw.d, none⟩, st) := rfl
  have lc := lc_A (mu := false) (T := .tup [(.name 1), (.name 2), (.name 3)]) (tt := mYes) (te := mV 3) (vs := [1, 2, 3]) hm (fun _ => true) (fun r => .int r.m) trivial (by omega) (fun r hr => ⟨[some (.tup (rows.map Rw.d)), some (.str r.n), some (.str r.g), some (.int r.m)], rfl, rfl, fun _ => rfl⟩)
  rw [List.filter_eq_self.mpr fun _ _ => rfl] at lc
  have e : (rows.map fun r => D.int r.m) = (rows.map (·.m)).map D.int := by rw [List.map_map]; rfl
  unfold ms_total_money_0
  exact retV (call1 lc ((congrArg (fun x => fSum [.lst x] st) e).trans (fSum_int _ st)))
/-! ### putting, over rows -/
def putR (xs : List Rw) (i : Nat) (d : Rw) : List Rw := xs.take i ++ [d] ++ xs.drop (i + 1)
theorem putR_map (xs : List Rw) (i : Nat) (d : Rw) : putL (xs.map Rw.d) i d.d = (putR xs i d).map Rw.d := by
  unfold putL putR
  rw [List.map_append, List.map_append, List.map_take, List.map_drop]
  rfl
theorem putR_len {xs : List Rw} {i : Nat} {d : Rw} (h : i < xs.length) : (putR xs i d).length = xs.length := by
  unfold putR
  rw [List.length_append, List.length_append, List.length_take, List.length_drop]
  simp
  omega
theorem putR_all {xs : List Rw} {i : Nat} {d : Rw} (p : Rw → Bool) (h : ∀ r ∈ xs, p r = true) : (putR xs i d).all p = p d := by
  unfold putR
  rw [List.all_append, List.all_append, List.all_eq_true.mpr fun r hr => h r (List.mem_of_mem_take hr), List.all_eq_true.mpr fun r hr => h r (List.mem_of_mem_drop hr)]
  simp
theorem putR_mem {xs : List Rw} {i : Nat} {d r : Rw} (h : r ∈ putR xs i d) : r ∈ xs ∨ r = d := by
  unfold putR at h
  rcases List.mem_append.mp h with h | h
  · rcases List.mem_append.mp h with h | h
    · exact .inl (List.mem_of_mem_take h)
    · exact .inr (List.mem_singleton.mp h)
  · exact .inl (List.mem_of_mem_drop h)
/-- money that goes up until no start has it -/
def upM (hs : List (Str × Int)) (g : Str) : Nat → Int → Int
  | 0, m => m
  | k + 1, m => upM hs g k (if (g, m) ∈ hs then m + 1 else m)
theorem upM_mem {hs : List (Str × Int)} {g : Str} : ∀ (k : Nat) (m : Int), (g, upM hs g k m) ∈ hs → ∀ j : Nat, j ≤ k → (g, m + j) ∈ hs
  | 0, m, h, j, hj => by
    have : j = 0 := by omega
    subst this
    simpa [upM] using h
  | k + 1, m, h, j, hj => by
    unfold upM at h
    by_cases hm : (g, m) ∈ hs
    · rw [if_pos hm] at h
      cases j with
      | zero => simpa using hm
      | succ j =>
        have k1 := upM_mem k (m + 1) h j (by omega)
        have e : m + 1 + (j : Int) = m + ((j + 1 : Nat) : Int) := by omega
        rw [e] at k1
        exact k1
    · rw [if_neg hm] at h
      have k1 := upM_mem k m h 0 (Nat.zero_le _)
      exact absurd (by simpa using k1) hm
theorem upM_out {hs : List (Str × Int)} (h3 : hs.length ≤ 3) (g : Str) (m : Int) : (g, upM hs g 4 m) ∉ hs := by
  intro h
  have k := upM_mem 4 m h
  have k0 := k 0 (by omega)
  have k1 := k 1 (by omega)
  have k2 := k 2 (by omega)
  have k3 := k 3 (by omega)
  match hs, h3 with
  | [], _ => exact List.not_mem_nil k0
  | [(a, i)], _ =>
    simp only [List.mem_cons, List.not_mem_nil, or_false, Prod.mk.injEq] at k0 k1 k2 k3
    omega
  | [(a, i), (b, j)], _ =>
    simp only [List.mem_cons, List.not_mem_nil, or_false, Prod.mk.injEq] at k0 k1 k2 k3
    omega
  | [(a, i), (b, j), (c, l)], _ =>
    simp only [List.mem_cons, List.not_mem_nil, or_false, Prod.mk.injEq] at k0 k1 k2 k3
    omega
  | _ :: _ :: _ :: _ :: _, h => simp at h
end K21


namespace K21
open PySem PySem.Spec PyProof.Rows L2 My
local macro_rules | `(tactic| walk_at "ev") => `(tactic| try simp only [mDef, mSeq, mAsg, mV_eq, mC, mOp, mUn, mCb, mNil, mCons, mTup, mIfS, mTB, mT, mRet, mNext, mgTup, mgCons, mgNil, mgT, mgName, setTg, setTgs, mIf, mAnd, mOr, mNot, mAndV, mOrV, mNotV, fB, fLt_int, fLe, fGt, fGe, fAdd_int, fSub_int, fMod_int, fDiv_int, fMul_int, fNeg_int, fIn_tup, fIn_lst, settle_same, fIx, look_tup, look_d, look_lst, look_fro, lookL_lst, atI_0, atI_1, atI_2, atI_3, fLen_tup, fLen_lst, miSeq, srcOf, mPar, mAug, mRetN, fTuple_lst, fTuple_tup, alloc_f, fEq_int, fMaxL_2, fMinL_2, fSorted_ints, fIsN_int, fIsN_non, fNe_int, mDrop, wipeE, mYes, My.isNon, miRng1, miRng2, fInt_int, truD, fShl_int, fPow_int, fAbs_int, fEq_bl, fIsi_tt, fIsi_it, fIsi_ii, fIsi_ib, fIsi_bt, fIsi_bi, fIsi_bb, fIsi_tb, fIsi_ti, last_concat, List.dropLast_concat, look_loc, lookL_loc, fLen_loc, ixN_0, ixN_1, ixN_2, ixN_3, fSetL_loc, fAppend_loc, fPop_loc, fExtend_loc, mgSub, mMt, alloc_t, mFrz, mSl, mRev, mNone, mSome, mLst, fNeg, fSet_tup, fSet_lst, fInS_int, fSortS_set, fAll_lst, fAdd_tup, fEq_str, fNe_str, fIsN_str, fIsN_bl, fIsN_tup, fIsN_lst, fIsi_si, fIsi_ss, fIsi_sb, fIsi_st, fIsi_ts, fIsB_non, fIsB_int, fIsB_str, fIsB_tup, fIsB_bl, fAdd_str, fTuple_loc, fLen_fro, mNotT, mCV, mBreak, mCont, z0, z1, z2, z3, z4, z5, z6, z7, z8, z9, List.lookup_cons,
  b_some, b_none, m_some, Option.join_some, List.getElem?_cons_zero, List.getElem?_cons_succ, List.set_cons_zero, List.set_cons_succ, List.map_cons, List.map_nil, List.length_cons, List.length_nil, List.replicate, List.cons_append, List.nil_append, Nat.reduceAdd, Nat.reduceSub, if_true, if_false, reduceIte, reduceCtorEq, ite_bind, Bool.false_eq_true, decide_eq_true_eq, List.length_map, decide_true, decide_false, Bool.not_true, Bool.not_false])
local macro_rules | `(tactic| walk_at "nx") => `(tactic| (refine (mSeq_nx (by (walk_at "ev"; rfl))).trans ?_))
theorem call3 {f : List D → Sto → Option (D × Sto)} {A B Y : ME} {en : En} {s : Sto} {a b y d : D} (hA : A en s = some (a, s)) (hB : B en s = some (b, s)) (hY : Y en s = some (y, s)) (h : f [a, b, y] s = some (d, s)) : (mCb f (mCons A (mCons B (mCons Y mNil)))) en s = some (d, s) := by
  unfold mCb
  rw [cons3 hA hB hY, b_some]
  exact h
theorem isBT {X : ME} {en : En} {s : Sto} {b : Bool} (hX : X en s = some (.bl b, s)) (c : Bool) : (mTB (mOp (fIsB true) X (mC (.bl c)))) en s = some (!(b == c), s) := by
  unfold mTB mOp mC
  rw [hX, b_some, b_some]
  cases b <;> cases c <;> rfl
theorem same_bls {X Y : ME} {en : En} {st : Sto} {b : Bool} (hX : X en st = some (.bl b, st)) (hY : Y en st = some (.bl b, st)) : (mCb (m__law_same 5) (mCons X (mCons Y mNil))) en st = some (.bl true, st) := call2 hX hY (same_bl b st)
theorem not_true {X : ME} {en : En} {st : Sto} (h : X en st = some (.bl true, st)) : (mNot (mT X)) en st = some (false, st) := notB (mT_bl h)
/-- the law's variables -/
structure VV where
  m : Option D
  n : Option D
  f : Option D
  g : Option D
  t : Option D
  k : Option D
  a : Option D
  w : Option D
  s : Option D
  d : Option D
  o : Option D
  y : Option D
  p : Option D
  c : Option D
  u : Option D
  x : Option D
  r : Option D
abbrev VV.en (v : VV) (S : D) : En := [some S, v.m, v.n, v.f, v.g, v.t, v.k, v.a, v.w, v.s, v.d, v.o, v.y, v.p, v.c, v.u, v.x, v.r]
section
variable {ns : List Int} {gs : List Str} {hs : List (Str × Int)} {O : D} {many : Int} {rows : List Rw} {v : VV}
abbrev tp (rs : List Rw) : D := .tup (rs.map Rw.d)
theorem lt_nodup {l : List Str} (h : l.Pairwise ltS) : l.Nodup := h.imp fun {a b} hab e => by
  subst e
  exact List.lt_irrefl a.cps.toList hab
theorem Fair.nd (F : Fair gs many rows) : (rows.map (·.n)).Nodup := lt_nodup F.asc
theorem sub_ok (F : Fair gs many rows) {rs : List Rw} (h : rs.Sublist rows) (st : Sto) : m__law_checked [mk gs (.tup (hs.map hdd)) O, tp rs] st = some (.tup [.str "told", .int rs.length], st) := by
  have h1 : ∀ r ∈ rs, Vn r.n ∧ r.g ∈ gs ∧ 0 ≤ r.m ∧ r.m ≤ 400 := fun r hr => F.vn r (h.subset hr)
  have h2 : (rs.map (·.n)).Pairwise ltS := F.asc.sublist (h.map _)
  have ok : ThOk (tp rs) := rows_th fun d hd => by
    obtain ⟨r, hr, rfl⟩ := List.mem_map.mp hd
    exact F.rok r (h.subset hr)
  rw [checked_eq ok, res_ok h1 h2]
theorem Ps.told (k : Int) : Ps 1 (.tup [.str "told", .int k]) := .tup 0 _ fun d hd => by
  simp only [List.mem_cons, List.not_mem_nil, or_false] at hd
  rcases hd with rfl | rfl
  · exact .str 0 _
  · exact .int 0 _
theorem step20 (F : Fair gs many rows) (hm : v.m = some (mk gs (.tup (hs.map hdd)) O)) (hf : v.f = some (tp rows)) (hl : rows.length < 1000) (S : D) (st : Sto) : ∃ t, ms_law_20 (v.en S) st = some (.nx ({ v with t := t }.en S), st) := by
  have s1 : mSl false (mV 3) mNone (mSome (mC (.int 1))) (v.en S) st = some (tp (rows.take 1), st) := by
    rw [mSl_tup (ds := rows.map Rw.d) (mV_at (by rw [← hf]; rfl)) rfl (mSome_int rfl), cutD_take _ _ (by omega), ← List.map_take]
    rfl
  have s2 : mSl false (mV 3) (mSome (mC (.int 1))) mNone (v.en S) st = some (tp (rows.drop 1), st) := by
    rw [mSl_tup (ds := rows.map Rw.d) (mV_at (by rw [← hf]; rfl)) (mSome_int rfl) rfl, cut_drop _ (by omega), ← List.map_drop]
    rfl
  have s0 : (mV 3) (v.en S) st = some (tp rows, st) := mV_at (by rw [← hf]; rfl)
  have kl := lst_mk (lst_cons s0 (lst_cons s1 (lst_cons (A := mTup mNil) (a := tp []) rfl (lst_cons s2 (rfl : mNil (v.en S) st = some ([], st)))))) (by simp)
  have hmi : miSeq (mLst false (mCons (mV 3) (mCons (mSl false (mV 3) mNone (mSome (mC (.int 1)))) (mCons (mTup mNil) (mCons (mSl false (mV 3) (mSome (mC (.int 1))) mNone) mNil))))) (v.en S) st = some (⟨[rows, rows.take 1, [], rows.drop 1].map tp, none⟩, st) := by
    unfold miSeq
    rw [kl, b_some]
    rfl
  have subs : ∀ rs ∈ [rows, rows.take 1, [], rows.drop 1], rs.Sublist rows := by
    intro rs h
    simp only [List.mem_cons, List.not_mem_nil, or_false] at h
    rcases h with rfl | rfl | rfl | rfl
    · exact List.Sublist.refl _
    · exact List.take_sublist _ _
    · exact List.nil_sublist _
    · exact List.drop_sublist _ _
  obtain ⟨en2, st2, b1, rfl, t, rfl⟩ := fold_A (T := .name 5) (b := ms_law_0) hmi (fun (a : Unit) _ => a)
    (fun _ en s => s = st ∧ ∃ t, en = { v with t := t }.en S) () ⟨rfl, v.t, rfl⟩ (by
    rintro rs hrs _ en s ⟨rfl, t, rfl⟩
    refine ⟨{ v with t := some (tp rs) }.en S, { v with t := some (tp rs) }.en S, s, rfl, ?_, rfl, _, rfl⟩
    unfold ms_law_0
    refine same_pass (d := .tup [.str "told", .int rs.length]) (n := 1) (call2 (mV_at (by rw [← hm]; rfl)) rfl (sub_ok F (subs rs hrs) s)) (tup2 rfl (call1 (a := tp rs) rfl ?_)) (Ps.told _) (by omega)
    show some (D.int ((rs.map Rw.d).length : Nat), s) = _
    rw [List.length_map])
  exact ⟨t, by unfold ms_law_20; exact b1⟩
theorem step22 (hn : ns.length ≤ 63) (M : Mk gs hs) (R : Rs rows) (hm : v.m = some (mk gs (.tup (hs.map hdd)) O)) (hf : v.f = some (tp rows)) (hg : v.g = some (.tup (gs.map .str))) (st : Sto) : ∃ t, ms_law_22 (v.en (scr ns)) st = some (.nx ({ v with t := t }.en (scr ns)), st) := by
  obtain ⟨t1, k1, l1, e1⟩ := bent_ex ns hn M (S := .tup (hs.map hdd)) (O := O) R st
  obtain ⟨t2, k2, l2, e2⟩ := two_ex ns hn (mkt := mk gs (.tup (hs.map hdd)) O) R st
  have c1 : (mCb m__law_bent (mCons (mV 0) (mCons (mV 1) (mCons (mV 3) mNil)))) (v.en (scr ns)) st = some (.lst t1, st) := call3 rfl (mV_at (by rw [← hm]; rfl)) (mV_at (by rw [← hf]; rfl)) e1
  have c2 : (mCb m__law_two (mCons (mV 0) (mCons (mV 1) (mCons (mV 3) mNil)))) (v.en (scr ns)) st = some (.lst t2, st) := call3 rfl (mV_at (by rw [← hm]; rfl)) (mV_at (by rw [← hf]; rfl)) e2
  have hmi : miSeq (mOp (fAdd false) (mCb m__law_bent (mCons (mV 0) (mCons (mV 1) (mCons (mV 3) mNil)))) (mCb m__law_two (mCons (mV 0) (mCons (mV 1) (mCons (mV 3) mNil))))) (v.en (scr ns)) st = some (⟨(t1 ++ t2).map fun t => t, none⟩, st) := by
    unfold miSeq mOp
    rw [c1, b_some, c2, b_some]
    dsimp only
    rw [fAdd_lsts (by omega), b_some, List.map_id']
    rfl
  obtain ⟨en2, st2, b1, rfl, t, rfl⟩ := fold_A (T := .name 5) (b := ms_law_2) hmi (fun (a : Unit) _ => a)
    (fun _ en s => s = st ∧ ∃ t, en = { v with t := t }.en (scr ns)) () ⟨rfl, v.t, rfl⟩ (by
    rintro x hx _ en s ⟨rfl, t, rfl⟩
    have ok : ThOk x := (List.mem_append.mp hx).elim (fun h => (k1 x h).ok) (fun h => (k2 x h).ok)
    refine ⟨{ v with t := some x }.en (scr ns), { v with t := some x }.en (scr ns), s, rfl, ?_, rfl, _, rfl⟩
    unfold ms_law_2
    exact same_pass (d := resD gs x) (n := 1) (call2 (mV_at (by rw [← hm]; rfl)) rfl (checked_eq ok s)) (call2 (mV_at (by rw [← hg]; rfl)) rfl (due_eq ok s)) (Ps.res gs x) (by omega))
  exact ⟨t, by unfold ms_law_22; exact b1⟩
end
end K21


namespace K21
open PySem PySem.Spec PyProof.Rows L2 My
local macro_rules | `(tactic| walk_at "ev") => `(tactic| try simp only [mDef, mSeq, mAsg, mV_eq, mC, mOp, mUn, mCb, mNil, mCons, mTup, mIfS, mTB, mT, mRet, mNext, mgTup, mgCons, mgNil, mgT, mgName, setTg, setTgs, mIf, mAnd, mOr, mNot, mAndV, mOrV, mNotV, fB, fLt_int, fLe, fGt, fGe, fAdd_int, fSub_int, fMod_int, fDiv_int, fMul_int, fNeg_int, fIn_tup, fIn_lst, settle_same, fIx, look_tup, look_d, look_lst, look_fro, lookL_lst, atI_0, atI_1, atI_2, atI_3, fLen_tup, fLen_lst, miSeq, srcOf, mPar, mAug, mRetN, fTuple_lst, fTuple_tup, alloc_f, fEq_int, fMaxL_2, fMinL_2, fSorted_ints, fIsN_int, fIsN_non, fNe_int, mDrop, wipeE, mYes, My.isNon, miRng1, miRng2, fInt_int, truD, fShl_int, fPow_int, fAbs_int, fEq_bl, fIsi_tt, fIsi_it, fIsi_ii, fIsi_ib, fIsi_bt, fIsi_bi, fIsi_bb, fIsi_tb, fIsi_ti, last_concat, List.dropLast_concat, look_loc, lookL_loc, fLen_loc, ixN_0, ixN_1, ixN_2, ixN_3, fSetL_loc, fAppend_loc, fPop_loc, fExtend_loc, mgSub, mMt, alloc_t, mFrz, mSl, mRev, mNone, mSome, mLst, fNeg, fSet_tup, fSet_lst, fInS_int, fSortS_set, fAll_lst, fAdd_tup, fEq_str, fNe_str, fIsN_str, fIsN_bl, fIsN_tup, fIsN_lst, fIsi_si, fIsi_ss, fIsi_sb, fIsi_st, fIsi_ts, fIsB_non, fIsB_int, fIsB_str, fIsB_tup, fIsB_bl, fAdd_str, fTuple_loc, fLen_fro, mNotT, mCV, mBreak, mCont, z0, z1, z2, z3, z4, z5, z6, z7, z8, z9, List.lookup_cons,
  b_some, b_none, m_some, Option.join_some, List.getElem?_cons_zero, List.getElem?_cons_succ, List.set_cons_zero, List.set_cons_succ, List.map_cons, List.map_nil, List.length_cons, List.length_nil, List.replicate, List.cons_append, List.nil_append, Nat.reduceAdd, Nat.reduceSub, if_true, if_false, reduceIte, reduceCtorEq, ite_bind, Bool.false_eq_true, decide_eq_true_eq, List.length_map, decide_true, decide_false, Bool.not_true, Bool.not_false])
local macro_rules | `(tactic| walk_at "nx") => `(tactic| (refine (mSeq_nx (by (walk_at "ev"; rfl))).trans ?_))
section
variable {ns : List Int} {gs : List Str} {hs : List (Str × Int)} {O : D} {many : Int} {rows : List Rw} {v : VV}
theorem Ps.held (g : Str) (m : Int) : Ps 2 (.tup [.str "told", hd g m]) := .tup 1 _ fun d hd => by
  simp only [List.mem_cons, List.not_mem_nil, or_false] at hd
  rcases hd with rfl | rfl
  · exact .str 1 _
  · refine .tup 0 _ fun d hd => ?_
    simp only [List.mem_cons, List.not_mem_nil, or_false] at hd
    rcases hd with rfl | rfl
    · exact .str 0 _
    · exact .int 0 _
theorem Ps.ref3s (a b c : Str) : Ps 1 (.tup [.str a, .str b, .str c]) := .tup 0 _ fun d hd => by
  simp only [List.mem_cons, List.not_mem_nil, or_false] at hd
  rcases hd with rfl | rfl | rfl <;> exact .str 0 _
theorem step24 (hn : ns.length ≤ 63) (F : Fair gs many rows) (hb : 2 ≤ many ∧ many ≤ 36) (hf : v.f = some (tp rows)) (hmn : v.n = some (.int many)) (st : Sto) : ∃ k x o y, ms_law_24 (v.en (scr ns)) st = some (.nx ({ v with k := k, x := x, o := o, y := y }.en (scr ns)), st) := by
  have hlen := F.len
  obtain ⟨w, w1, w2, w3⟩ := draw_ex ns hn (p := 46) (m := many) (by omega) (by omega)
  have hmi : miRng1 (mCons (mC (.int 3)) mNil) (v.en (scr ns)) st = some (⟨[0, 1, 2].map D.int, none⟩, st) := by
    walk_at "ev"
    rw [if_pos (small_ok (by omega))]
    rfl
  obtain ⟨en2, st2, b1, rfl, k, x, o, y, rfl⟩ := fold_A (T := .name 6) (b := mSeq (ms_law_4) (ms_law_6)) hmi (fun (a : Unit) _ => a)
    (fun _ en s => s = st ∧ ∃ k x o y, en = { v with k := k, x := x, o := o, y := y }.en (scr ns)) () ⟨rfl, v.k, v.x, v.o, v.y, rfl⟩ (by
    rintro i hi _ en s ⟨rfl, k, x, o, y, rfl⟩
    obtain ⟨j, j1, j2, j3⟩ : ∃ j : Int, 0 ≤ j ∧ j < many ∧ atI [D.int 0, .int (many - 1), .int w] i = some (.int j) := by
      simp only [List.mem_cons, List.not_mem_nil, or_false] at hi
      rcases hi with rfl | rfl | rfl
      · exact ⟨0, by omega, by omega, atI_0 _ _⟩
      · exact ⟨many - 1, by omega, by omega, atI_1 _ _ _⟩
      · exact ⟨w, w1, w2, atI_2 _ _ _ _⟩
    obtain ⟨r, hr, er⟩ := pickA Rw.d rows (v := j) j1 (by omega)
    let v1 : VV := { v with k := some (.int i), x := x, o := o, y := y }
    let v2 : VV := { v with k := some (.int i), x := some (.str r.n), o := some (.str r.g), y := some (.int r.m) }
    have kl : (mLst false (mCons (mC (.int 0)) (mCons (mOp fSub (mV 2) (mC (.int 1))) (mCons (mCb m__law_draw (mCons (mV 0) (mCons (mC (.int 46)) (mCons (mV 2) mNil)))) mNil)))) (v1.en (scr ns)) s = some (.lst [.int 0, .int (many - 1), .int w], s) :=
      lst_mk (lst_cons rfl (lst_cons (opSub (mV_at (by rw [← hmn]; rfl)) rfl) (lst_cons (callDraw rfl (mV_at (by rw [← hmn]; rfl)) w3) rfl))) (by simp)
    have kr := opIx (A := mV 3) (en := v1.en (scr ns)) (s := s) (mV_at (by rw [← hf]; rfl)) (opIxL kl (rfl : (mV 6) (v1.en (scr ns)) s = some (.int i, s)) j3) er
    have b4 : ms_law_4 (v1.en (scr ns)) s = some (.nx (v2.en (scr ns)), s) := by
      unfold ms_law_4 mAsg
      rw [kr, b_some]
      rfl
    refine ⟨v1.en (scr ns), v2.en (scr ns), s, rfl, (mSeq_nx b4).trans ?_, rfl, _, _, _, _, rfl⟩
    unfold ms_law_6
    have hh := held_eq rows r.n s
    rw [heldD_in F.nd hr] at hh
    exact same_pass (d := .tup [.str "told", hd r.g r.m]) (n := 2) (call2 (mV_at (by rw [← hf]; rfl)) rfl hh) (tup2 rfl (tup2 rfl rfl)) (Ps.held _ _) (by omega))
  exact ⟨k, x, o, y, by unfold ms_law_24; exact b1⟩
theorem split_at {r : Rw} {i : Nat} (h : rows[i]? = some r) : rows = rows.take i ++ r :: rows.drop (i + 1) := by
  obtain ⟨hi, e⟩ := List.getElem?_eq_some_iff.mp h
  rw [← e, List.getElem_cons_drop, List.take_append_drop]
theorem out_names (F : Fair gs many rows) {r : Rw} {i : Nat} (h : rows[i]? = some r) : ∀ q ∈ rows.take i ++ rows.drop (i + 1), q.n ≠ r.n := by
  have nd := F.nd
  have e := split_at h
  intro q hq z
  rw [e, List.map_append, List.map_cons] at nd
  obtain ⟨n1, n2, n3⟩ := List.nodup_append.mp nd
  obtain ⟨n4, n5⟩ := List.nodup_cons.mp n2
  rcases List.mem_append.mp hq with hq | hq
  · exact n3 q.n (List.mem_map.mpr ⟨q, hq, rfl⟩) r.n (List.mem_cons_self) z
  · exact n4 (by rw [← z]; exact List.mem_map.mpr ⟨q, hq, rfl⟩)
theorem step30 (F : Fair gs many rows) (hl : rows.length < 1000) {a : Int} (h0 : 0 ≤ a) {r : Rw} (hr : rows[a.toNat]? = some r) (hf : v.f = some (tp rows)) (ha : v.a = some (.int a)) (hw : v.w = some (tp (rows.take a.toNat ++ rows.drop (a.toNat + 1)))) (S : D) (st : Sto) : ∃ t, ms_law_30 (v.en S) st = some (.nx ({ v with s := t }.en S), st) := by
  have e := atI_map Rw.d rows a
  have er : atI (rows.map Rw.d) a = some r.d := by
    rw [e]
    have hi := (List.getElem?_eq_some_iff.mp hr).1
    rw [atI_nat h0 (by omega)]
    rw [(List.getElem?_eq_some_iff.mp hr).2]
    rfl
  have hmi : miSeq (mLst false (mCons (mV 8) (mCons (mTup mNil) mNil))) (v.en S) st = some (⟨[rows.take a.toNat ++ rows.drop (a.toNat + 1), []].map tp, none⟩, st) := by
    have kl := lst_mk (lst_cons (A := mV 8) (en := v.en S) (s := st) (mV_at (by rw [← hw]; rfl)) (lst_cons (A := mTup mNil) (a := tp []) rfl (rfl : mNil (v.en S) st = some ([], st)))) (by simp)
    unfold miSeq
    rw [kl, b_some]
    rfl
  obtain ⟨en2, st2, b1, rfl, t, rfl⟩ := fold_A (T := .name 9) (b := ms_law_8) hmi (fun (a : Unit) _ => a)
    (fun _ en s => s = st ∧ ∃ t, en = { v with s := t }.en S) () ⟨rfl, v.s, rfl⟩ (by
    rintro rs hrs _ en s ⟨rfl, t, rfl⟩
    refine ⟨{ v with s := some (tp rs) }.en S, { v with s := some (tp rs) }.en S, s, rfl, ?_, rfl, _, rfl⟩
    have hout : ∀ q ∈ rs, q.n ≠ r.n := by
      simp only [List.mem_cons, List.not_mem_nil, or_false] at hrs
      rcases hrs with rfl | rfl
      · exact out_names F hr
      · intro q hq; exact absurd hq List.not_mem_nil
    have hh := held_eq rs r.n s
    rw [heldD_out hout] at hh
    have kn : (mOp fIx (mOp fIx (mV 3) (mV 7)) (mC (.int 0))) ({ v with s := some (tp rs) }.en S) s = some (.str r.n, s) := opIx (opIx (mV_at (by rw [← hf]; rfl)) (mV_at (by rw [← ha]; rfl)) er) rfl (row_n r)
    unfold ms_law_8
    exact same_pass (d := .tup [.str "refused", .str "trader", .str r.n]) (n := 1) (call2 rfl kn hh) (tup3 rfl rfl kn) (Ps.ref3s _ _ _) (by omega))
  exact ⟨t, by unfold ms_law_30; exact b1⟩
theorem step32 (hn : ns.length ≤ 63) (M : Mk gs hs) (hl : rows.length < 1000) (hm : v.m = some (mk gs (.tup (hs.map hdd)) O)) (hf : v.f = some (tp rows)) (st : Sto) : ∃ rs : List Rw, rs.length = rows.length ∧ (∀ r ∈ rs, (r.g, r.m) ∈ hs) ∧ ms_law_32 (v.en (scr ns)) st = some (.nx ({ v with d := some (tp rs) }.en (scr ns)), st) := by
  have h0 : 0 < hs.length := List.length_pos_iff.mpr M.h0
  have h3 := M.h1
  have hx : ∀ k : Nat, ∃ h : Str × Int, k < 1000 → h ∈ hs ∧ ∃ w : Int, atI (hs.map hdd) w = some (hdd h) ∧ ∀ st, m__law_draw [scr ns, .int (800 + (k : Int)), .int hs.length] st = some (.int w, st) := by
    intro k
    by_cases hk : k < 1000
    · obtain ⟨w, w1, w2, w3⟩ := draw_ex ns hn (p := 800 + (k : Int)) (m := hs.length) (by omega) (by omega)
      obtain ⟨h, hh, eh⟩ := pickA hdd hs w1 w2
      exact ⟨h, fun _ => ⟨hh, w, eh, w3⟩⟩
    · exact ⟨(("" : Str), 0), fun h => absurd h hk⟩
  obtain ⟨f, hf2⟩ := Classical.axiomOfChoice hx
  have hmi : miEnumA (mCons (mV 3) mNil) (v.en (scr ns)) st = some (⟨rows.zipIdx.map fun p => .tup [.int (p.2 : Nat), p.1.d], none⟩, st) := by
    unfold miEnumA
    have k : mCons (mV 3) mNil (v.en (scr ns)) st = some ([tp rows], st) := cons1 (mV_at (by rw [← hf]; rfl))
    rw [k, b_some]
    show some ((⟨enumD (rows.map Rw.d), none⟩ : Src), st) = _
    unfold enumD
    rw [List.zipIdx_map, List.map_map]
    rfl
  have lc := lc_A (mu := false) (T := .tup [(.name 6), (.name 17)]) (tt := mYes) (te := (mOp (fAdd false) (mTup (mCons (mOp fIx (mV 17) (mC (.int 0))) mNil)) (mOp fIx (mOp fIx (mV 1) (mC (.int 1))) (mCb m__law_draw (mCons (mV 0) (mCons (mOp (fAdd false) (mC (.int 800)) (mV 6)) (mCons (mCb fLen (mCons (mOp fIx (mV 1) (mC (.int 1))) mNil)) mNil))))))) (vs := [6, 17]) hmi (fun _ => true) (fun p => (Rw.mk p.1.n (f p.2).1 (f p.2).2).d) trivial (by rw [List.length_zipIdx]; omega) (by
    rintro ⟨r, k⟩ hp
    have hk : k < rows.length := by
      have := List.mem_zipIdx hp
      omega
    obtain ⟨hh, w, ew, dw⟩ := hf2 k (by omega)
    let v1 : VV := { v with k := some (.int (k : Nat)), r := some r.d }
    refine ⟨v1.en (scr ns), rfl, rfl, fun _ => ?_⟩
    have k1 : mTup (mCons (mOp fIx (mV 17) (mC (.int 0))) mNil) (v1.en (scr ns)) st = some (.tup [.str r.n], st) := by
      unfold mTup
      have q : mCons (mOp fIx (mV 17) (mC (.int 0))) mNil (v1.en (scr ns)) st = some ([.str r.n], st) := cons1 (opIx rfl rfl (row_n r))
      rw [q, b_some]
      dsimp only
      rw [if_pos (szle (by simp))]
    have km : (mOp fIx (mV 1) (mC (.int 1))) (v1.en (scr ns)) st = some (.tup (hs.map hdd), st) := opIx (mV_at (by rw [← hm]; rfl)) rfl (atI_1 _ _ _)
    have kn : (mCb fLen (mCons (mOp fIx (mV 1) (mC (.int 1))) mNil)) (v1.en (scr ns)) st = some (.int hs.length, st) := call1 km (by
      show some (D.int ((hs.map hdd).length : Nat), st) = _
      rw [List.length_map])
    have kd : (mCb m__law_draw (mCons (mV 0) (mCons (mOp (fAdd false) (mC (.int 800)) (mV 6)) (mCons (mCb fLen (mCons (mOp fIx (mV 1) (mC (.int 1))) mNil)) mNil)))) (v1.en (scr ns)) st = some (.int w, st) := call3 rfl (opAdd rfl rfl) kn (dw st)
    have k2 := opIx km kd ew
    generalize mTup (mCons (mOp fIx (mV 17) (mC (.int 0))) mNil) = A at k1 ⊢
    generalize (mOp fIx (mOp fIx (mV 1) (mC (.int 1))) (mCb m__law_draw (mCons (mV 0) (mCons (mOp (fAdd false) (mC (.int 800)) (mV 6)) (mCons (mCb fLen (mCons (mOp fIx (mV 1) (mC (.int 1))) mNil)) mNil))))) = B at k2 ⊢
    unfold mOp
    rw [k1, b_some, k2, b_some]
    dsimp only
    rw [fAdd_tup, if_pos (szle (by simp))]
    rfl)
  rw [List.filter_eq_self.mpr fun _ _ => rfl] at lc
  refine ⟨rows.zipIdx.map fun p => Rw.mk p.1.n (f p.2).1 (f p.2).2, by rw [List.length_map, List.length_zipIdx], fun r hr => ?_, ?_⟩
  · obtain ⟨⟨q, k⟩, hp, rfl⟩ := List.mem_map.mp hr
    have hk : k < rows.length := by
      have := List.mem_zipIdx hp
      omega
    exact (hf2 k (by omega)).1
  · unfold ms_law_32
    refine (asgV (call1 lc (d := tp (rows.zipIdx.map fun p => Rw.mk p.1.n (f p.2).1 (f p.2).2)) ?_)).trans rfl
    show some (D.tup _, st) = _
    unfold tp
    rw [List.map_map]
    rfl
theorem step40 {g : Str} {m : Int} (M : Mk gs hs) (hg : Nm g) (hm : v.m = some (mk gs (.tup (hs.map hdd)) O)) (ho : v.o = some (.str g)) (S : D) (st : Sto) : ∃ p, ms_law_40 ({ v with y := some (.int m) }.en S) st = some (.nx ({ v with y := some (.int (upM hs g 4 m)), p := p }.en S), st) := by
  have hmi : miRng1 (mCons (mC (.int 4)) mNil) ({ v with y := some (.int m) }.en S) st = some (⟨[0, 1, 2, 3].map D.int, none⟩, st) := by
    walk_at "ev"
    rw [if_pos (small_ok (by omega))]
    rfl
  obtain ⟨en2, st2, b1, rfl, p, rfl⟩ := fold_A (T := .name 13) (b := ms_law_10) hmi (fun (a : Int) _ => if (g, a) ∈ hs then a + 1 else a)
    (fun a en s => s = st ∧ ∃ p, en = { v with y := some (.int a), p := p }.en S) m ⟨rfl, v.p, rfl⟩ (by
    rintro i hi a en s ⟨rfl, p, rfl⟩
    let v1 : VV := { v with y := some (.int a), p := some (.int i) }
    refine ⟨v1.en S, { v with y := some (.int (if (g, a) ∈ hs then a + 1 else a)), p := some (.int i) }.en S, s, rfl, ?_, rfl, _, rfl⟩
    have k : (mTB (mOp (fInU false) (mTup (mCons (mV 11) (mCons (mV 12) mNil))) (mOp fIx (mV 1) (mC (.int 1))))) (v1.en S) s = some (decide ((g, a) ∈ hs), s) := by
      have t := tup2 (A := mV 11) (B := mV 12) (a := .str g) (b := .int a) (en := v1.en S) (s := s) (mV_at (by rw [← ho]; rfl)) rfl
      have km : (mOp fIx (mV 1) (mC (.int 1))) (v1.en S) s = some (.tup (hs.map hdd), s) := opIx (mV_at (by rw [← hm]; rfl)) rfl (atI_1 _ _ _)
      generalize (mTup (mCons (mV 11) (mCons (mV 12) mNil))) = T at t ⊢
      generalize (mOp fIx (mV 1) (mC (.int 1))) = K at km ⊢
      unfold mTB mOp
      rw [t, b_some, km, b_some]
      dsimp only
      rw [show fInU false (D.tup [.str g, .int a]) (.tup (hs.map hdd)) s = _ from fInU_hdd false (fun x hx => (M.hv x hx).1.nm) hg]
      rfl
    unfold ms_law_10
    by_cases hmem : (g, a) ∈ hs
    · rw [decide_eq_true hmem] at k
      rw [if_pos hmem]
      exact (mIfS_t k).trans rfl
    · rw [decide_eq_false hmem] at k
      rw [if_neg hmem]
      exact (mIfS_f k).trans rfl)
  exact ⟨p, by unfold ms_law_40; exact b1⟩
end
end K21


namespace K21
open PySem PySem.Spec PyProof.Rows L2 My
local macro_rules | `(tactic| walk_at "ev") => `(tactic| try simp only [mDef, mSeq, mAsg, mV_eq, mC, mOp, mUn, mCb, mNil, mCons, mTup, mIfS, mTB, mT, mRet, mNext, mgTup, mgCons, mgNil, mgT, mgName, setTg, setTgs, mIf, mAnd, mOr, mNot, mAndV, mOrV, mNotV, fB, fLt_int, fLe, fGt, fGe, fAdd_int, fSub_int, fMod_int, fDiv_int, fMul_int, fNeg_int, fIn_tup, fIn_lst, settle_same, fIx, look_tup, look_d, look_lst, look_fro, lookL_lst, atI_0, atI_1, atI_2, atI_3, fLen_tup, fLen_lst, miSeq, srcOf, mPar, mAug, mRetN, fTuple_lst, fTuple_tup, alloc_f, fEq_int, fMaxL_2, fMinL_2, fSorted_ints, fIsN_int, fIsN_non, fNe_int, mDrop, wipeE, mYes, My.isNon, miRng1, miRng2, fInt_int, truD, fShl_int, fPow_int, fAbs_int, fEq_bl, fIsi_tt, fIsi_it, fIsi_ii, fIsi_ib, fIsi_bt, fIsi_bi, fIsi_bb, fIsi_tb, fIsi_ti, last_concat, List.dropLast_concat, look_loc, lookL_loc, fLen_loc, ixN_0, ixN_1, ixN_2, ixN_3, fSetL_loc, fAppend_loc, fPop_loc, fExtend_loc, mgSub, mMt, alloc_t, mFrz, mSl, mRev, mNone, mSome, mLst, fNeg, fSet_tup, fSet_lst, fInS_int, fSortS_set, fAll_lst, fAdd_tup, fEq_str, fNe_str, fIsN_str, fIsN_bl, fIsN_tup, fIsN_lst, fIsi_si, fIsi_ss, fIsi_sb, fIsi_st, fIsi_ts, fIsB_non, fIsB_int, fIsB_str, fIsB_tup, fIsB_bl, fAdd_str, fTuple_loc, fLen_fro, mNotT, mCV, mBreak, mCont, z0, z1, z2, z3, z4, z5, z6, z7, z8, z9, List.lookup_cons,
  b_some, b_none, m_some, Option.join_some, List.getElem?_cons_zero, List.getElem?_cons_succ, List.set_cons_zero, List.set_cons_succ, List.map_cons, List.map_nil, List.length_cons, List.length_nil, List.replicate, List.cons_append, List.nil_append, Nat.reduceAdd, Nat.reduceSub, if_true, if_false, reduceIte, reduceCtorEq, ite_bind, Bool.false_eq_true, decide_eq_true_eq, List.length_map, decide_true, decide_false, Bool.not_true, Bool.not_false])
local macro_rules | `(tactic| walk_at "nx") => `(tactic| (refine (mSeq_nx (by (walk_at "ev"; rfl))).trans ?_))
theorem law_true (ns : List Int) (hn : ns.length ≤ 63) : ∃ st, m_law [.fro (ns.map .int)] [] = some (.bl true, st) := by
  let st : Sto := []
  let S : D := scr ns
  let v0 : VV := ⟨none, none, none, none, none, none, none, none, none, none, none, none, none, none, none, none, none⟩
  obtain ⟨gs, hs, O, M, em⟩ := market_ex ns hn st
  let mkt : D := mk gs (.tup (hs.map hdd)) O
  obtain ⟨x3, p3, q3, d3⟩ := draw_ex ns hn (p := 3) (m := 5) (by omega) (by omega)
  obtain ⟨x4, p4, q4, d4⟩ := draw_ex ns hn (p := 4) (m := 11) (by omega) (by omega)
  have a12 : ms_law_12 (v0.en S) st = some (.nx ({ v0 with m := some mkt }.en S), st) := by
    unfold ms_law_12
    exact asgV (call1 rfl em)
  have a14 : ms_law_14 ({ v0 with m := some mkt }.en S) st = some (.nx ({ v0 with m := some mkt, n := some (.int (2 + x3)) }.en S), st) := by
    unfold ms_law_14
    exact asgV (opAdd rfl (callDraw rfl rfl d3))
  obtain ⟨many, hb, a16⟩ : ∃ many : Int, (2 ≤ many ∧ many ≤ 36) ∧ ms_law_16 ({ v0 with m := some mkt, n := some (.int (2 + x3)) }.en S) st = some (.nx ({ v0 with m := some mkt, n := some (.int many) }.en S), st) := by
    have k : (mTB (mOp fEq (mCb m__law_draw (mCons (mV 0) (mCons (mC (.int 4)) (mCons (mC (.int 11)) mNil)))) (mC (.int 0)))) ({ v0 with m := some mkt, n := some (.int (2 + x3)) }.en S) st = some (decide (x4 = 0), st) := by
      have kd := callDraw (ns := ns) (M := mC (.int 11)) (en := { v0 with m := some mkt, n := some (.int (2 + x3)) }.en S) (s := st) rfl rfl d4
      unfold mTB mOp
      rw [kd, b_some]
      show Option.bind (fEq (.int x4) (.int 0) st) _ = _
      rw [fEq_int]
      rfl
    by_cases h : x4 = 0
    · rw [decide_eq_true h] at k
      refine ⟨30, by omega, ?_⟩
      unfold ms_law_16
      exact (mIfS_t k).trans rfl
    · rw [decide_eq_false h] at k
      refine ⟨2 + x3, by omega, ?_⟩
      unfold ms_law_16
      exact (mIfS_f k).trans rfl
  obtain ⟨rows, F, ef⟩ := fair_ex ns hn M (S := .tup (hs.map hdd)) (O := O) (many := many) (by omega) st
  have hlen := F.len
  have hl : rows.length < 1000 := by omega
  have R : Rs rows := ⟨by omega, by omega, fun r hr => (F.vn r hr).1.len, fun r hr => (F.vn r hr).2.2⟩
  let v1 : VV := { v0 with m := some mkt, n := some (.int many), f := some (tp rows), g := some (.tup (gs.map .str)) }
  have a18 : ms_law_18 ({ v0 with m := some mkt, n := some (.int many) }.en S) st = some (.nx ({ v0 with m := some mkt, n := some (.int many), f := some (tp rows) }.en S), st) := by
    unfold ms_law_18
    exact asgV (call3 rfl rfl rfl ef)
  have a19 : (mAsg (mOp fIx (mV 1) (mC (.int 0))) (mgName 4)) ({ v0 with m := some mkt, n := some (.int many), f := some (tp rows) }.en S) st = some (.nx (v1.en S), st) := asgV (opIx rfl rfl (atI_0 _ _))
  obtain ⟨t1, a20⟩ := step20 (v := v1) (O := O) (hs := hs) F rfl rfl hl S st
  obtain ⟨t2, a22⟩ := step22 (v := { v1 with t := t1 }) (O := O) hn M R rfl rfl rfl st
  obtain ⟨k3, n3, o3, y3, a24⟩ := step24 (v := { v1 with t := t2 }) hn F hb rfl rfl st
  let v2 : VV := { v1 with t := t2, k := k3, x := n3, o := o3, y := y3 }
  obtain ⟨w, w1, w2, w3⟩ := draw_ex ns hn (p := 47) (m := many) (by omega) (by omega)
  obtain ⟨r, hr⟩ : ∃ r, rows[w.toNat]? = some r := ⟨_, List.getElem?_eq_getElem (by omega)⟩
  have hrm : r ∈ rows := List.mem_of_getElem? hr
  have er : atI (rows.map Rw.d) w = some r.d := by
    rw [atI_map, atI_nat w1 (by omega)]
    rw [(List.getElem?_eq_some_iff.mp hr).2]
    rfl
  have a26 : ms_law_26 (v2.en S) st = some (.nx ({ v2 with a := some (.int w) }.en S), st) := by
    unfold ms_law_26
    exact asgV (callDraw rfl rfl w3)
  let few : List Rw := rows.take w.toNat ++ rows.drop (w.toNat + 1)
  let v3 : VV := { v2 with a := some (.int w), w := some (tp few) }
  have a28 : ms_law_28 ({ v2 with a := some (.int w) }.en S) st = some (.nx (v3.en S), st) := by
    have s1 : mSl false (mV 3) mNone (mSome (mV 7)) ({ v2 with a := some (.int w) }.en S) st = some (tp (rows.take w.toNat), st) := by
      rw [mSl_tup (ds := rows.map Rw.d) rfl rfl (mSome_int rfl), cutD_take _ _ w1, ← List.map_take]
    have s2 : mSl false (mV 3) (mSome (mOp (fAdd false) (mV 7) (mC (.int 1)))) mNone ({ v2 with a := some (.int w) }.en S) st = some (tp (rows.drop (w.toNat + 1)), st) := by
      have e : (w + 1).toNat = w.toNat + 1 := by omega
      rw [mSl_tup (ds := rows.map Rw.d) rfl (mSome_int (i := w + 1) rfl) rfl, cut_drop _ (by omega), e, ← List.map_drop]
    unfold ms_law_28
    refine asgV ?_
    generalize mSl false (mV 3) mNone (mSome (mV 7)) = A at s1 ⊢
    generalize mSl false (mV 3) (mSome (mOp (fAdd false) (mV 7) (mC (.int 1)))) mNone = B at s2 ⊢
    unfold mOp
    rw [s1, b_some, s2, b_some]
    dsimp only
    rw [fAdd_tup, if_pos (szle (by rw [List.length_map, List.length_map, List.length_take, List.length_drop]; omega)), ← List.map_append]
  obtain ⟨t4, a30⟩ := step30 (v := v3) F hl w1 hr rfl rfl rfl S st
  let v4 : VV := { v3 with s := t4 }
  obtain ⟨rs, rl, rh, a32⟩ := step32 (v := v4) (O := O) hn M hl rfl rfl st
  let v5 : VV := { v4 with d := some (tp rs) }
  have hsn : ∀ x ∈ hs, Nm x.1 := fun x hx => (M.hv x hx).1.nm
  have rsn : ∀ q ∈ rs, Nm q.g := fun q hq => hsn _ (rh q hq)
  have rall : ∀ q ∈ rs, decide ((q.g, q.m) ∈ hs) = true := fun q hq => decide_eq_true (rh q hq)
  have a34 : ms_law_34 (v5.en S) st = some (.nx (v5.en S), st) := by
    have e1 := start_eq (gs := gs) (O := O) hsn (rows := rs) (by omega) rsn st
    rw [List.all_eq_true.mpr rall] at e1
    have e2 := start_eq (gs := gs) (O := O) hsn (rows := []) (by simp) (fun q hq => absurd hq List.not_mem_nil) st
    have k1 : (mCb m_is_start_fair (mCons (mV 1) (mCons (mV 10) mNil))) (v5.en S) st = some (.bl true, st) := call2 rfl rfl e1
    have k2 : (mCb m_is_start_fair (mCons (mV 1) (mCons (mTup mNil) mNil))) (v5.en S) st = some (.bl true, st) := call2 rfl (rfl : (mTup mNil) (v5.en S) st = some (tp [], st)) e2
    unfold ms_law_34
    exact (mIfS_f (orB (isBT k1 true) (fun _ => isBT k2 true))).trans rfl
  obtain ⟨g5, p5, q5, d5⟩ := draw_ex ns hn (p := 48) (m := gs.length) (by have := M.g1; have : 0 < gs.length := List.length_pos_iff.mpr M.g0; omega) (by have := M.g1; have : 0 < gs.length := List.length_pos_iff.mpr M.g0; omega)
  obtain ⟨g, hg, eg⟩ := pickA D.str gs p5 q5
  obtain ⟨m0, p6, q6, d6⟩ := draw_ex ns hn (p := 49) (m := 14) (by omega) (by omega)
  let v6 : VV := { v5 with o := some (.str g) }
  have a36 : ms_law_36 (v5.en S) st = some (.nx (v6.en S), st) := by
    have kn : (mCb fLen (mCons (mV 4) mNil)) (v5.en S) st = some (.int gs.length, st) := call1 (a := .tup (gs.map .str)) rfl (by
      show some (D.int ((gs.map D.str).length : Nat), st) = _
      rw [List.length_map])
    unfold ms_law_36
    exact asgV (opIx (A := mV 4) rfl (callDraw rfl kn d5) eg)
  have a38 : ms_law_38 (v6.en S) st = some (.nx ({ v6 with y := some (.int m0) }.en S), st) := by
    unfold ms_law_38
    exact asgV (callDraw rfl rfl d6)
  obtain ⟨p7, a40⟩ := step40 (v := v6) (O := O) (g := g) (m := m0) M (M.gv g hg).nm rfl rfl S st
  let mm : Int := upM hs g 4 m0
  let v7 : VV := { v6 with y := some (.int mm), p := p7 }
  have hwl : w.toNat < rs.length := by omega
  have kn7 : ∀ u : VV, u.f = some (tp rows) → u.a = some (.int w) → (mOp fIx (mOp fIx (mV 3) (mV 7)) (mC (.int 0))) (u.en S) st = some (.str r.n, st) := fun u h1 h2 => opIx (opIx (mV_at (by rw [← h1]; rfl)) (mV_at (by rw [← h2]; rfl)) er) rfl (row_n r)
  have putS : ∀ (q : Rw) (hq : Nm q.g), m_is_start_fair [mkt, .tup (putL (rs.map Rw.d) w.toNat q.d)] st = some (.bl (decide ((q.g, q.m) ∈ hs)), st) := by
    intro q hq
    rw [putR_map]
    have e := start_eq (gs := gs) (O := O) hsn (rows := putR rs w.toNat q) (by rw [putR_len hwl]; omega) (fun z hz => by
      rcases putR_mem hz with hz | rfl
      · exact rsn z hz
      · exact hq) st
    rw [putR_all _ rall] at e
    exact e
  have hlr : (rs.map Rw.d).length < 1000 := by rw [List.length_map]; omega
  have a42 : ms_law_42 (v7.en S) st = some (.nx (v7.en S), st) := by
    have e := putS ⟨r.n, g, mm⟩ (M.gv g hg).nm
    rw [decide_eq_false (upM_out M.h1 g m0)] at e
    have kp : (mCb m__law_put (mCons (mV 10) (mCons (mV 7) (mCons (mTup (mCons (mOp fIx (mOp fIx (mV 3) (mV 7)) (mC (.int 0))) (mCons (mV 11) (mCons (mV 12) mNil)))) mNil)))) (v7.en S) st = some (.tup (putL (rs.map Rw.d) w.toNat (Rw.mk r.n g mm).d), st) := callPut rfl rfl (tup3 (kn7 v7 rfl rfl) rfl rfl) w1 hlr
    unfold ms_law_42
    exact (mIfS_f (isBT (call2 rfl kp e) false)).trans rfl
  obtain ⟨ha, hha, ea⟩ := pickA hdd hs (v := 0) (by omega) (by have : 0 < hs.length := List.length_pos_iff.mpr M.h0; omega)
  obtain ⟨hz, hz1, ez⟩ := ix_neg1 (hs.map hdd) (fun e => M.h0 (List.map_eq_nil_iff.mp e))
  obtain ⟨hz, hhz, rfl⟩ := List.mem_map.mp hz1
  let v8 : VV := { v7 with c := some (hd ha.1 hz.2) }
  have a44 : ms_law_44 (v7.en S) st = some (.nx (v8.en S), st) := by
    have k1 : (mOp fIx (mOp fIx (mOp fIx (mV 1) (mC (.int 1))) (mC (.int 0))) (mC (.int 0))) (v7.en S) st = some (.str ha.1, st) := opIx (opIx (opIx (A := mV 1) rfl rfl (atI_1 _ _ _)) rfl ea) rfl (atI_0 _ _)
    have k2 : (mOp fIx (mOp fIx (mOp fIx (mV 1) (mC (.int 1))) (mUn fNeg (mC (.int 1)))) (mC (.int 1))) (v7.en S) st = some (.int hz.2, st) := opIx (opIx (opIx (A := mV 1) rfl rfl (atI_1 _ _ _)) rfl ez) rfl (atI_1 _ _ _)
    unfold ms_law_44
    exact asgV (tup2 k1 k2)
  have a46 : ms_law_46 (v8.en S) st = some (.nx (v8.en S), st) := by
    have e := putS ⟨r.n, ha.1, hz.2⟩ (hsn ha hha)
    have kt : (mOp (fAdd false) (mTup (mCons (mOp fIx (mOp fIx (mV 3) (mV 7)) (mC (.int 0))) mNil)) (mV 14)) (v8.en S) st = some ((Rw.mk r.n ha.1 hz.2).d, st) := by
      have q : mTup (mCons (mOp fIx (mOp fIx (mV 3) (mV 7)) (mC (.int 0))) mNil) (v8.en S) st = some (.tup [.str r.n], st) := by
        unfold mTup
        rw [cons1 (kn7 v8 rfl rfl), b_some]
        dsimp only
        rw [if_pos (szle (by simp))]
      generalize mTup (mCons (mOp fIx (mOp fIx (mV 3) (mV 7)) (mC (.int 0))) mNil) = A at q ⊢
      unfold mOp
      rw [q, b_some]
      show fAdd false (.tup [.str r.n]) (hd ha.1 hz.2) st = _
      rw [fAdd_tup, if_pos (szle (by simp))]
      rfl
    have kp : (mCb m__law_put (mCons (mV 10) (mCons (mV 7) (mCons (mOp (fAdd false) (mTup (mCons (mOp fIx (mOp fIx (mV 3) (mV 7)) (mC (.int 0))) mNil)) (mV 14)) mNil)))) (v8.en S) st = some (.tup (putL (rs.map Rw.d) w.toNat (Rw.mk r.n ha.1 hz.2).d), st) := callPut rfl rfl kt w1 hlr
    have ki : (mOp (fInU false) (mV 14) (mOp fIx (mV 1) (mC (.int 1)))) (v8.en S) st = some (.bl (decide ((ha.1, hz.2) ∈ hs)), st) := by
      have km : (mOp fIx (mV 1) (mC (.int 1))) (v8.en S) st = some (.tup (hs.map hdd), st) := opIx (A := mV 1) rfl rfl (atI_1 _ _ _)
      generalize (mOp fIx (mV 1) (mC (.int 1))) = K at km ⊢
      unfold mOp
      rw [show (mV 14) (v8.en S) st = some (hd ha.1 hz.2, st) from rfl, b_some, km, b_some]
      dsimp only
      rw [fInU_hdd false hsn (hsn ha hha)]
      rfl
    unfold ms_law_46
    exact (mIfS_f (not_true (same_bls (call2 rfl kp e) ki))).trans rfl
  let sm : Int := (rows.map (·.m)).sum
  let v9 : VV := { v8 with u := some (.int sm) }
  have a48 : ms_law_48 (v8.en S) st = some (.nx (v9.en S), st) := by
    have hmi : miSeq (mV 3) (v8.en S) st = some (⟨rows.map Rw.d, none⟩, st) := rfl
    have lc := lc_A (mu := false) (T := .name 17) (tt := mYes) (te := (mOp fIx (mV 17) (mC (.int 2)))) (vs := [17]) hmi (fun _ => true) (fun q => .int q.m) trivial (by omega) (fun q hq => ⟨{ v8 with r := some q.d }.en S, rfl, rfl, fun _ => opIx rfl rfl (row_m q)⟩)
    rw [List.filter_eq_self.mpr fun _ _ => rfl] at lc
    have e : (rows.map fun q => D.int q.m) = (rows.map (·.m)).map D.int := by rw [List.map_map]; rfl
    unfold ms_law_48
    exact asgV (call1 lc ((congrArg (fun x => fSum [.lst x] st) e).trans (fSum_int _ st)))
  have a50 : ms_law_50 (v9.en S) st = some (.nx (v9.en S), st) := by
    have k1 := same_not (X := mCb m_total_money (mCons (mV 3) mNil)) (Y := mV 15) (en := v9.en S) (st := st) (d := .int sm) (n := 0) (call1 rfl (total_eq hl st)) rfl (.int 0 _) (by omega)
    have k2 := same_not (X := mCb m_total_money (mCons (mTup mNil) mNil)) (Y := mC (.int 0)) (en := v9.en S) (st := st) (d := .int 0) (n := 0) (call1 (a := tp []) rfl (total_eq (rows := []) (by simp) st)) rfl (.int 0 _) (by omega)
    unfold ms_law_50
    exact (mIfS_f (orB k1 (fun _ => k2))).trans rfl
  have a52 : ms_law_52 (v9.en S) st = some (.rt (.bl true), st) := by
    have k := sub_ok (hs := hs) (O := O) F (List.Sublist.refl rows) st
    rw [hlen] at k
    have k1 : (mCb m__law_checked (mCons (mV 1) (mCons (mV 3) mNil))) (v9.en S) st = some (.tup [.str "told", .int many], st) := call2 rfl rfl k
    have k2 : (mTup (mCons (mC (.str "told")) (mCons (mV 2) mNil))) (v9.en S) st = some (.tup [.str "told", .int many], st) := tup2 rfl rfl
    unfold ms_law_52
    exact retV (same_val k1 k2 (Ps.told many) (by omega))
  exact ⟨st, mDef_rt rfl ((mSeq_nx a12).trans ((mSeq_nx a14).trans ((mSeq_nx a16).trans ((mSeq_nx a18).trans ((mSeq_nx a19).trans ((mSeq_nx a20).trans ((mSeq_nx a22).trans ((mSeq_nx a24).trans ((mSeq_nx a26).trans ((mSeq_nx a28).trans ((mSeq_nx a30).trans ((mSeq_nx a32).trans ((mSeq_nx a34).trans ((mSeq_nx a36).trans ((mSeq_nx a38).trans ((mSeq_nx a40).trans ((mSeq_nx a42).trans ((mSeq_nx a44).trans ((mSeq_nx a46).trans ((mSeq_nx a48).trans ((mSeq_nx a50).trans a52)))))))))))))))))))))⟩
end K21


namespace K21
open PySem PySem.Spec PyProof.Rows L2 My
/-! ### what the top has written -/
theorem mkc_KEPT {K : PySem.W.Frag} {h : Heap} {mg : Str → Option Value} (X : K.In h) (G : h.Ns mainGlobals mg) {a0 : Addr} {od0 : Option Addr} {n0 : Nat} {sl0 : Array (Option Value)} {t1 t2 t3 t4 t5 t6 t7 t8 t9 t10 t11 t12 t13 t14 t15 : Tok} (g : PySem.W.nsIn K mainGlobals "KEPT" = some (some (.ref a0))) (l0 : K.lookup a0 = some ⟨.type "tuple", od0, .seq #[.str "good" t1, .str "start" t2, .str "offer" t3, .str "other" t4, .str "house" t5, .str "least" t6, .str "most" t7, .str "from" t8, .str "turn" t9, .str "rests" t10, .str "none" t11, .str "never" t12, .str "may" t13, .str "deal" t14, .str "join" t15] n0, sl0⟩) : GConst K mg "KEPT" (.tup [(.str "good"), (.str "start"), (.str "offer"), (.str "other"), (.str "house"), (.str "least"), (.str "most"), (.str "from"), (.str "turn"), (.str "rests"), (.str "none"), (.str "never"), (.str "may"), (.str "deal"), (.str "join")]) := ⟨_, PySem.W.mg_of X G g, (kr_tup l0 (by simp) (krs_cons kr_str (krs_cons kr_str (krs_cons kr_str (krs_cons kr_str (krs_cons kr_str (krs_cons kr_str (krs_cons kr_str (krs_cons kr_str (krs_cons kr_str (krs_cons kr_str (krs_cons kr_str (krs_cons kr_str (krs_cons kr_str (krs_cons kr_str (krs_cons kr_str krs_nil))))))))))))))))⟩
theorem mkc_SMALL {K : PySem.W.Frag} {h : Heap} {mg : Str → Option Value} (X : K.In h) (G : h.Ns mainGlobals mg) {t1 : Tok} (g : PySem.W.nsIn K mainGlobals "SMALL" = some (some (.str "abcdefghijklmnopqrstuvwxyz" t1))) : GConst K mg "SMALL" (.str "abcdefghijklmnopqrstuvwxyz") := ⟨_, PySem.W.mg_of X G g, kr_str⟩
theorem mkc_FIGURES {K : PySem.W.Frag} {h : Heap} {mg : Str → Option Value} (X : K.In h) (G : h.Ns mainGlobals mg) {t1 : Tok} (g : PySem.W.nsIn K mainGlobals "FIGURES" = some (some (.str "0123456789" t1))) : GConst K mg "FIGURES" (.str "0123456789") := ⟨_, PySem.W.mg_of X G g, kr_str⟩
theorem mk_is_name {K : PySem.W.Frag} {h : Heap} {mg : Str → Option Value} (X : K.In h) (G : h.Ns mainGlobals mg) {f : Addr} {od an : Option Addr} {sl : Array (Option Value)} {oc kV dc pm cd ct : Value} (a : PySem.W.nsIn K mainGlobals "is_name" = some (some (.ref f))) (l : K.lookup f = some ⟨oc, od, .func (PySem.W.fnOf "is_name" "is_name" (defArgs s_is_name) (defBody s_is_name) (defScope s_is_name) .none kV dc pm an cd ct), sl⟩) (c : PySem.W.codeIn K cd "is_name" = true) (k : PySem.W.keepIn K (.ref f) = true) : ∃ (f : Addr) (fd : FuncData), Fun K "is_name" "is_name" s_is_name f fd ∧ mg "is_name" = some (.ref f) := ⟨f, _, fun_mk l c k, PySem.W.mg_of X G a⟩
theorem mk_is_integer {K : PySem.W.Frag} {h : Heap} {mg : Str → Option Value} (X : K.In h) (G : h.Ns mainGlobals mg) {f : Addr} {od an : Option Addr} {sl : Array (Option Value)} {oc kV dc pm cd ct : Value} (a : PySem.W.nsIn K mainGlobals "is_integer" = some (some (.ref f))) (l : K.lookup f = some ⟨oc, od, .func (PySem.W.fnOf "is_integer" "is_integer" (defArgs s_is_integer) (defBody s_is_integer) (defScope s_is_integer) .none kV dc pm an cd ct), sl⟩) (c : PySem.W.codeIn K cd "is_integer" = true) (k : PySem.W.keepIn K (.ref f) = true) : ∃ (f : Addr) (fd : FuncData), Fun K "is_integer" "is_integer" s_is_integer f fd ∧ mg "is_integer" = some (.ref f) := ⟨f, _, fun_mk l c k, PySem.W.mg_of X G a⟩
theorem mk_trader_word {K : PySem.W.Frag} {h : Heap} {mg : Str → Option Value} (X : K.In h) (G : h.Ns mainGlobals mg) {f : Addr} {od an : Option Addr} {sl : Array (Option Value)} {oc kV dc pm cd ct : Value} (a : PySem.W.nsIn K mainGlobals "trader_word" = some (some (.ref f))) (l : K.lookup f = some ⟨oc, od, .func (PySem.W.fnOf "trader_word" "trader_word" (defArgs s_trader_word) (defBody s_trader_word) (defScope s_trader_word) .none kV dc pm an cd ct), sl⟩) (c : PySem.W.codeIn K cd "trader_word" = true) (k : PySem.W.keepIn K (.ref f) = true) : ∃ (f : Addr) (fd : FuncData), Fun K "trader_word" "trader_word" s_trader_word f fd ∧ mg "trader_word" = some (.ref f) := ⟨f, _, fun_mk l c k, PySem.W.mg_of X G a⟩
theorem mk_check_fair {K : PySem.W.Frag} {h : Heap} {mg : Str → Option Value} (X : K.In h) (G : h.Ns mainGlobals mg) {f : Addr} {od an : Option Addr} {sl : Array (Option Value)} {oc kV dc pm cd ct : Value} (a : PySem.W.nsIn K mainGlobals "check_fair" = some (some (.ref f))) (l : K.lookup f = some ⟨oc, od, .func (PySem.W.fnOf "check_fair" "check_fair" (defArgs s_check_fair) (defBody s_check_fair) (defScope s_check_fair) .none kV dc pm an cd ct), sl⟩) (c : PySem.W.codeIn K cd "check_fair" = true) (k : PySem.W.keepIn K (.ref f) = true) : ∃ (f : Addr) (fd : FuncData), Fun K "check_fair" "check_fair" s_check_fair f fd ∧ mg "check_fair" = some (.ref f) := ⟨f, _, fun_mk l c k, PySem.W.mg_of X G a⟩
theorem mk_found_holding {K : PySem.W.Frag} {h : Heap} {mg : Str → Option Value} (X : K.In h) (G : h.Ns mainGlobals mg) {f : Addr} {od an : Option Addr} {sl : Array (Option Value)} {oc kV dc pm cd ct : Value} (a : PySem.W.nsIn K mainGlobals "found_holding" = some (some (.ref f))) (l : K.lookup f = some ⟨oc, od, .func (PySem.W.fnOf "found_holding" "found_holding" (defArgs s_found_holding) (defBody s_found_holding) (defScope s_found_holding) .none kV dc pm an cd ct), sl⟩) (c : PySem.W.codeIn K cd "found_holding" = true) (k : PySem.W.keepIn K (.ref f) = true) : ∃ (f : Addr) (fd : FuncData), Fun K "found_holding" "found_holding" s_found_holding f fd ∧ mg "found_holding" = some (.ref f) := ⟨f, _, fun_mk l c k, PySem.W.mg_of X G a⟩
theorem mk_holding_of {K : PySem.W.Frag} {h : Heap} {mg : Str → Option Value} (X : K.In h) (G : h.Ns mainGlobals mg) {f : Addr} {od an : Option Addr} {sl : Array (Option Value)} {oc kV dc pm cd ct : Value} (a : PySem.W.nsIn K mainGlobals "holding_of" = some (some (.ref f))) (l : K.lookup f = some ⟨oc, od, .func (PySem.W.fnOf "holding_of" "holding_of" (defArgs s_holding_of) (defBody s_holding_of) (defScope s_holding_of) .none kV dc pm an cd ct), sl⟩) (c : PySem.W.codeIn K cd "holding_of" = true) (k : PySem.W.keepIn K (.ref f) = true) : ∃ (f : Addr) (fd : FuncData), Fun K "holding_of" "holding_of" s_holding_of f fd ∧ mg "holding_of" = some (.ref f) := ⟨f, _, fun_mk l c k, PySem.W.mg_of X G a⟩
theorem mk_is_start_fair {K : PySem.W.Frag} {h : Heap} {mg : Str → Option Value} (X : K.In h) (G : h.Ns mainGlobals mg) {f : Addr} {od an : Option Addr} {sl : Array (Option Value)} {oc kV dc pm cd ct : Value} (a : PySem.W.nsIn K mainGlobals "is_start_fair" = some (some (.ref f))) (l : K.lookup f = some ⟨oc, od, .func (PySem.W.fnOf "is_start_fair" "is_start_fair" (defArgs s_is_start_fair) (defBody s_is_start_fair) (defScope s_is_start_fair) .none kV dc pm an cd ct), sl⟩) (c : PySem.W.codeIn K cd "is_start_fair" = true) (k : PySem.W.keepIn K (.ref f) = true) : ∃ (f : Addr) (fd : FuncData), Fun K "is_start_fair" "is_start_fair" s_is_start_fair f fd ∧ mg "is_start_fair" = some (.ref f) := ⟨f, _, fun_mk l c k, PySem.W.mg_of X G a⟩
theorem mk_total_money {K : PySem.W.Frag} {h : Heap} {mg : Str → Option Value} (X : K.In h) (G : h.Ns mainGlobals mg) {f : Addr} {od an : Option Addr} {sl : Array (Option Value)} {oc kV dc pm cd ct : Value} (a : PySem.W.nsIn K mainGlobals "total_money" = some (some (.ref f))) (l : K.lookup f = some ⟨oc, od, .func (PySem.W.fnOf "total_money" "total_money" (defArgs s_total_money) (defBody s_total_money) (defScope s_total_money) .none kV dc pm an cd ct), sl⟩) (c : PySem.W.codeIn K cd "total_money" = true) (k : PySem.W.keepIn K (.ref f) = true) : ∃ (f : Addr) (fd : FuncData), Fun K "total_money" "total_money" s_total_money f fd ∧ mg "total_money" = some (.ref f) := ⟨f, _, fun_mk l c k, PySem.W.mg_of X G a⟩
theorem mk__law_same {K : PySem.W.Frag} {h : Heap} {mg : Str → Option Value} (X : K.In h) (G : h.Ns mainGlobals mg) {f : Addr} {od an : Option Addr} {sl : Array (Option Value)} {oc kV dc pm cd ct : Value} (a : PySem.W.nsIn K mainGlobals "_law_same" = some (some (.ref f))) (l : K.lookup f = some ⟨oc, od, .func (PySem.W.fnOf "_law_same" "_law_same" (defArgs s__law_same) (defBody s__law_same) (defScope s__law_same) .none kV dc pm an cd ct), sl⟩) (c : PySem.W.codeIn K cd "_law_same" = true) (k : PySem.W.keepIn K (.ref f) = true) : ∃ (f : Addr) (fd : FuncData), Fun K "_law_same" "_law_same" s__law_same f fd ∧ mg "_law_same" = some (.ref f) := ⟨f, _, fun_mk l c k, PySem.W.mg_of X G a⟩
theorem mk__law_draw {K : PySem.W.Frag} {h : Heap} {mg : Str → Option Value} (X : K.In h) (G : h.Ns mainGlobals mg) {f : Addr} {od an : Option Addr} {sl : Array (Option Value)} {oc kV dc pm cd ct : Value} (a : PySem.W.nsIn K mainGlobals "_law_draw" = some (some (.ref f))) (l : K.lookup f = some ⟨oc, od, .func (PySem.W.fnOf "_law_draw" "_law_draw" (defArgs s__law_draw) (defBody s__law_draw) (defScope s__law_draw) .none kV dc pm an cd ct), sl⟩) (c : PySem.W.codeIn K cd "_law_draw" = true) (k : PySem.W.keepIn K (.ref f) = true) : ∃ (f : Addr) (fd : FuncData), Fun K "_law_draw" "_law_draw" s__law_draw f fd ∧ mg "_law_draw" = some (.ref f) := ⟨f, _, fun_mk l c k, PySem.W.mg_of X G a⟩
theorem mk__law_words {K : PySem.W.Frag} {h : Heap} {mg : Str → Option Value} (X : K.In h) (G : h.Ns mainGlobals mg) {f : Addr} {od an : Option Addr} {sl : Array (Option Value)} {oc kV dc pm cd ct : Value} (a : PySem.W.nsIn K mainGlobals "_law_words" = some (some (.ref f))) (l : K.lookup f = some ⟨oc, od, .func (PySem.W.fnOf "_law_words" "_law_words" (defArgs s__law_words) (defBody s__law_words) (defScope s__law_words) .none kV dc pm an cd ct), sl⟩) (c : PySem.W.codeIn K cd "_law_words" = true) (k : PySem.W.keepIn K (.ref f) = true) : ∃ (f : Addr) (fd : FuncData), Fun K "_law_words" "_law_words" s__law_words f fd ∧ mg "_law_words" = some (.ref f) := ⟨f, _, fun_mk l c k, PySem.W.mg_of X G a⟩
theorem mk__law_name {K : PySem.W.Frag} {h : Heap} {mg : Str → Option Value} (X : K.In h) (G : h.Ns mainGlobals mg) {f : Addr} {od an : Option Addr} {sl : Array (Option Value)} {oc kV dc pm cd ct : Value} (a : PySem.W.nsIn K mainGlobals "_law_name" = some (some (.ref f))) (l : K.lookup f = some ⟨oc, od, .func (PySem.W.fnOf "_law_name" "_law_name" (defArgs s__law_name) (defBody s__law_name) (defScope s__law_name) .none kV dc pm an cd ct), sl⟩) (c : PySem.W.codeIn K cd "_law_name" = true) (k : PySem.W.keepIn K (.ref f) = true) : ∃ (f : Addr) (fd : FuncData), Fun K "_law_name" "_law_name" s__law_name f fd ∧ mg "_law_name" = some (.ref f) := ⟨f, _, fun_mk l c k, PySem.W.mg_of X G a⟩
theorem mk__law_names {K : PySem.W.Frag} {h : Heap} {mg : Str → Option Value} (X : K.In h) (G : h.Ns mainGlobals mg) {f : Addr} {od an : Option Addr} {sl : Array (Option Value)} {oc kV dc pm cd ct : Value} (a : PySem.W.nsIn K mainGlobals "_law_names" = some (some (.ref f))) (l : K.lookup f = some ⟨oc, od, .func (PySem.W.fnOf "_law_names" "_law_names" (defArgs s__law_names) (defBody s__law_names) (defScope s__law_names) .none kV dc pm an cd ct), sl⟩) (c : PySem.W.codeIn K cd "_law_names" = true) (k : PySem.W.keepIn K (.ref f) = true) : ∃ (f : Addr) (fd : FuncData), Fun K "_law_names" "_law_names" s__law_names f fd ∧ mg "_law_names" = some (.ref f) := ⟨f, _, fun_mk l c k, PySem.W.mg_of X G a⟩
theorem mk__law_is_name {K : PySem.W.Frag} {h : Heap} {mg : Str → Option Value} (X : K.In h) (G : h.Ns mainGlobals mg) {f : Addr} {od an : Option Addr} {sl : Array (Option Value)} {oc kV dc pm cd ct : Value} (a : PySem.W.nsIn K mainGlobals "_law_is_name" = some (some (.ref f))) (l : K.lookup f = some ⟨oc, od, .func (PySem.W.fnOf "_law_is_name" "_law_is_name" (defArgs s__law_is_name) (defBody s__law_is_name) (defScope s__law_is_name) .none kV dc pm an cd ct), sl⟩) (c : PySem.W.codeIn K cd "_law_is_name" = true) (k : PySem.W.keepIn K (.ref f) = true) : ∃ (f : Addr) (fd : FuncData), Fun K "_law_is_name" "_law_is_name" s__law_is_name f fd ∧ mg "_law_is_name" = some (.ref f) := ⟨f, _, fun_mk l c k, PySem.W.mg_of X G a⟩
theorem mk__law_market {K : PySem.W.Frag} {h : Heap} {mg : Str → Option Value} (X : K.In h) (G : h.Ns mainGlobals mg) {f : Addr} {od an : Option Addr} {sl : Array (Option Value)} {oc kV dc pm cd ct : Value} (a : PySem.W.nsIn K mainGlobals "_law_market" = some (some (.ref f))) (l : K.lookup f = some ⟨oc, od, .func (PySem.W.fnOf "_law_market" "_law_market" (defArgs s__law_market) (defBody s__law_market) (defScope s__law_market) .none kV dc pm an cd ct), sl⟩) (c : PySem.W.codeIn K cd "_law_market" = true) (k : PySem.W.keepIn K (.ref f) = true) : ∃ (f : Addr) (fd : FuncData), Fun K "_law_market" "_law_market" s__law_market f fd ∧ mg "_law_market" = some (.ref f) := ⟨f, _, fun_mk l c k, PySem.W.mg_of X G a⟩
theorem mk__law_fair {K : PySem.W.Frag} {h : Heap} {mg : Str → Option Value} (X : K.In h) (G : h.Ns mainGlobals mg) {f : Addr} {od an : Option Addr} {sl : Array (Option Value)} {oc kV dc pm cd ct : Value} (a : PySem.W.nsIn K mainGlobals "_law_fair" = some (some (.ref f))) (l : K.lookup f = some ⟨oc, od, .func (PySem.W.fnOf "_law_fair" "_law_fair" (defArgs s__law_fair) (defBody s__law_fair) (defScope s__law_fair) .none kV dc pm an cd ct), sl⟩) (c : PySem.W.codeIn K cd "_law_fair" = true) (k : PySem.W.keepIn K (.ref f) = true) : ∃ (f : Addr) (fd : FuncData), Fun K "_law_fair" "_law_fair" s__law_fair f fd ∧ mg "_law_fair" = some (.ref f) := ⟨f, _, fun_mk l c k, PySem.W.mg_of X G a⟩
theorem mk__law_due {K : PySem.W.Frag} {h : Heap} {mg : Str → Option Value} (X : K.In h) (G : h.Ns mainGlobals mg) {f : Addr} {od an : Option Addr} {sl : Array (Option Value)} {oc kV dc pm cd ct : Value} (a : PySem.W.nsIn K mainGlobals "_law_due" = some (some (.ref f))) (l : K.lookup f = some ⟨oc, od, .func (PySem.W.fnOf "_law_due" "_law_due" (defArgs s__law_due) (defBody s__law_due) (defScope s__law_due) .none kV dc pm an cd ct), sl⟩) (c : PySem.W.codeIn K cd "_law_due" = true) (k : PySem.W.keepIn K (.ref f) = true) : ∃ (f : Addr) (fd : FuncData), Fun K "_law_due" "_law_due" s__law_due f fd ∧ mg "_law_due" = some (.ref f) := ⟨f, _, fun_mk l c k, PySem.W.mg_of X G a⟩
theorem mk__law_checked {K : PySem.W.Frag} {h : Heap} {mg : Str → Option Value} (X : K.In h) (G : h.Ns mainGlobals mg) {f : Addr} {od an : Option Addr} {sl : Array (Option Value)} {oc kV dc pm cd ct : Value} (a : PySem.W.nsIn K mainGlobals "_law_checked" = some (some (.ref f))) (l : K.lookup f = some ⟨oc, od, .func (PySem.W.fnOf "_law_checked" "_law_checked" (defArgs s__law_checked) (defBody s__law_checked) (defScope s__law_checked) .none kV dc pm an cd ct), sl⟩) (c : PySem.W.codeIn K cd "_law_checked" = true) (k : PySem.W.keepIn K (.ref f) = true) : ∃ (f : Addr) (fd : FuncData), Fun K "_law_checked" "_law_checked" s__law_checked f fd ∧ mg "_law_checked" = some (.ref f) := ⟨f, _, fun_mk l c k, PySem.W.mg_of X G a⟩
theorem mk__law_held {K : PySem.W.Frag} {h : Heap} {mg : Str → Option Value} (X : K.In h) (G : h.Ns mainGlobals mg) {f : Addr} {od an : Option Addr} {sl : Array (Option Value)} {oc kV dc pm cd ct : Value} (a : PySem.W.nsIn K mainGlobals "_law_held" = some (some (.ref f))) (l : K.lookup f = some ⟨oc, od, .func (PySem.W.fnOf "_law_held" "_law_held" (defArgs s__law_held) (defBody s__law_held) (defScope s__law_held) .none kV dc pm an cd ct), sl⟩) (c : PySem.W.codeIn K cd "_law_held" = true) (k : PySem.W.keepIn K (.ref f) = true) : ∃ (f : Addr) (fd : FuncData), Fun K "_law_held" "_law_held" s__law_held f fd ∧ mg "_law_held" = some (.ref f) := ⟨f, _, fun_mk l c k, PySem.W.mg_of X G a⟩
theorem mk__law_put {K : PySem.W.Frag} {h : Heap} {mg : Str → Option Value} (X : K.In h) (G : h.Ns mainGlobals mg) {f : Addr} {od an : Option Addr} {sl : Array (Option Value)} {oc kV dc pm cd ct : Value} (a : PySem.W.nsIn K mainGlobals "_law_put" = some (some (.ref f))) (l : K.lookup f = some ⟨oc, od, .func (PySem.W.fnOf "_law_put" "_law_put" (defArgs s__law_put) (defBody s__law_put) (defScope s__law_put) .none kV dc pm an cd ct), sl⟩) (c : PySem.W.codeIn K cd "_law_put" = true) (k : PySem.W.keepIn K (.ref f) = true) : ∃ (f : Addr) (fd : FuncData), Fun K "_law_put" "_law_put" s__law_put f fd ∧ mg "_law_put" = some (.ref f) := ⟨f, _, fun_mk l c k, PySem.W.mg_of X G a⟩
theorem mk__law_no_row {K : PySem.W.Frag} {h : Heap} {mg : Str → Option Value} (X : K.In h) (G : h.Ns mainGlobals mg) {f : Addr} {od an : Option Addr} {sl : Array (Option Value)} {oc kV dc pm cd ct : Value} (a : PySem.W.nsIn K mainGlobals "_law_no_row" = some (some (.ref f))) (l : K.lookup f = some ⟨oc, od, .func (PySem.W.fnOf "_law_no_row" "_law_no_row" (defArgs s__law_no_row) (defBody s__law_no_row) (defScope s__law_no_row) .none kV dc pm an cd ct), sl⟩) (c : PySem.W.codeIn K cd "_law_no_row" = true) (k : PySem.W.keepIn K (.ref f) = true) : ∃ (f : Addr) (fd : FuncData), Fun K "_law_no_row" "_law_no_row" s__law_no_row f fd ∧ mg "_law_no_row" = some (.ref f) := ⟨f, _, fun_mk l c k, PySem.W.mg_of X G a⟩
theorem mk__law_no_name {K : PySem.W.Frag} {h : Heap} {mg : Str → Option Value} (X : K.In h) (G : h.Ns mainGlobals mg) {f : Addr} {od an : Option Addr} {sl : Array (Option Value)} {oc kV dc pm cd ct : Value} (a : PySem.W.nsIn K mainGlobals "_law_no_name" = some (some (.ref f))) (l : K.lookup f = some ⟨oc, od, .func (PySem.W.fnOf "_law_no_name" "_law_no_name" (defArgs s__law_no_name) (defBody s__law_no_name) (defScope s__law_no_name) .none kV dc pm an cd ct), sl⟩) (c : PySem.W.codeIn K cd "_law_no_name" = true) (k : PySem.W.keepIn K (.ref f) = true) : ∃ (f : Addr) (fd : FuncData), Fun K "_law_no_name" "_law_no_name" s__law_no_name f fd ∧ mg "_law_no_name" = some (.ref f) := ⟨f, _, fun_mk l c k, PySem.W.mg_of X G a⟩
theorem mk__law_bent {K : PySem.W.Frag} {h : Heap} {mg : Str → Option Value} (X : K.In h) (G : h.Ns mainGlobals mg) {f : Addr} {od an : Option Addr} {sl : Array (Option Value)} {oc kV dc pm cd ct : Value} (a : PySem.W.nsIn K mainGlobals "_law_bent" = some (some (.ref f))) (l : K.lookup f = some ⟨oc, od, .func (PySem.W.fnOf "_law_bent" "_law_bent" (defArgs s__law_bent) (defBody s__law_bent) (defScope s__law_bent) .none kV dc pm an cd ct), sl⟩) (c : PySem.W.codeIn K cd "_law_bent" = true) (k : PySem.W.keepIn K (.ref f) = true) : ∃ (f : Addr) (fd : FuncData), Fun K "_law_bent" "_law_bent" s__law_bent f fd ∧ mg "_law_bent" = some (.ref f) := ⟨f, _, fun_mk l c k, PySem.W.mg_of X G a⟩
theorem mk__law_two {K : PySem.W.Frag} {h : Heap} {mg : Str → Option Value} (X : K.In h) (G : h.Ns mainGlobals mg) {f : Addr} {od an : Option Addr} {sl : Array (Option Value)} {oc kV dc pm cd ct : Value} (a : PySem.W.nsIn K mainGlobals "_law_two" = some (some (.ref f))) (l : K.lookup f = some ⟨oc, od, .func (PySem.W.fnOf "_law_two" "_law_two" (defArgs s__law_two) (defBody s__law_two) (defScope s__law_two) .none kV dc pm an cd ct), sl⟩) (c : PySem.W.codeIn K cd "_law_two" = true) (k : PySem.W.keepIn K (.ref f) = true) : ∃ (f : Addr) (fd : FuncData), Fun K "_law_two" "_law_two" s__law_two f fd ∧ mg "_law_two" = some (.ref f) := ⟨f, _, fun_mk l c k, PySem.W.mg_of X G a⟩
theorem mk_law {K : PySem.W.Frag} {h : Heap} {mg : Str → Option Value} (X : K.In h) (G : h.Ns mainGlobals mg) {f : Addr} {od an : Option Addr} {sl : Array (Option Value)} {oc kV dc pm cd ct : Value} (a : PySem.W.nsIn K mainGlobals "law" = some (some (.ref f))) (l : K.lookup f = some ⟨oc, od, .func (PySem.W.fnOf "law" "law" (defArgs s_law) (defBody s_law) (defScope s_law) .none kV dc pm an cd ct), sl⟩) (c : PySem.W.codeIn K cd "law" = true) (k : PySem.W.keepIn K (.ref f) = true) : ∃ (f : Addr) (fd : FuncData), Fun K "law" "law" s_law f fd ∧ mg "law" = some (.ref f) := ⟨f, _, fun_mk l c k, PySem.W.mg_of X G a⟩
theorem mkx_BadFair {P : Program} {K : PySem.W.Frag} {h : Heap} {mg : Str → Option Value} (X : K.In h) (G : h.Ns mainGlobals mg) {C M N0 fI cc cda : Addr} {nm q file : Str} {tf : Tok} {bs : List Value} {sn : List Str} {sub : List Value} {ab : Bool} {col : Option Bool} {dd od an cld cdd : Option Addr} {m0 m1 m2 m3 m5 : Option Value} {sl csl ccs : Array (Option Value)} {vs : Array Value} {oc kV dc pm ct cl ccl : Value}
    (a : PySem.W.nsIn K mainGlobals "BadFair" = some (some (.ref C))) (xL : K.lookup C = some (excClassObj nm q C N0 bs [.ref M, .type "ValueError", .type "Exception", .type "BaseException", .type "object"] true sn sub ab col dd m0 m1 m2 m3 m5 "ValueError.__new__"))
    (sa : PySem.W.findIn K (.ref C) "__setattr__" = some (some (.builtin "object.__setattr__"))) (eC : PySem.W.subIn K (.ref C) (.type "BaseException") = some true) (tC : PySem.W.typeIn K (.ref C) = some (.type "type")) (kC : PySem.W.keepIn K (.ref C) = true)
    (ga : PySem.W.findIn K (.ref C) "__getattribute__" = some (some (.builtin "BaseException.__getattribute__"))) (gg : PySem.W.findIn K (.ref C) "__getattr__" = some none) (hC : PySem.W.hasDictIn K C = true) (n0 : PySem.W.findIn K (.ref C) "number" = some none) (n1 : PySem.W.findIn K (.ref C) "word" = some none)
    (iC : PySem.W.findIn K (.ref C) "__init__" = some (some (.ref fI))) (tI : PySem.W.typeIn K (.ref fI) = some (.type "function"))
    (l : K.lookup fI = some ⟨oc, od, .func (PySem.W.ksFn "__init__" "BadFair.__init__" (defArgs s_xBadFair) (defBody s_xBadFair) (defScope s_xBadFair) .none kV dc pm an (.ref cda) ct cc), sl⟩) (hcd : PySem.W.codeIn K (.ref cda) "BadFair.__init__" = true)
    (ce : K.lookup cc = some ⟨cl, cld, .cell (some (.ref C)), csl⟩) (co : K.lookup cda = some ⟨ccl, cdd, .fields vs, ccs⟩) (v2 : vs[2]? = some (.str file tf)) (vf : ((P.main.file : Str) == file) = true)
    (su : PySem.W.mroIn K C (.ref C) = some true) (sp : PySem.W.ks_superIn K C C "__init__" = some (some (.builtin "ValueError.__init__"))) (iB : PySem.W.subIn K (.ref C) (.type "ValueError") = some true) (oq : PySem.W.nsIn K cStatics "thirdparty.any" = some none)
    (tp : (P.main.scope.names.lookup ("super" : Str)).isSome = false) (zs : mg "super" = none) : Nonempty (ExcF P K mg "BadFair" ["number", "word"] ["self", "number", "word"]) := by
  have T := oexC_mk xL sa eC tC kC
  refine ⟨⟨C, fI, PySem.W.ksFn "__init__" "BadFair.__init__" (defArgs s_xBadFair) (defBody s_xBadFair) (defScope s_xBadFair) .none kV dc pm an (.ref cda) ct cc, PySem.W.mg_of X G a, a, T, ⟨ga, gg, eC, hC⟩, ?_, iC, tI, .all fun us hl => match us, hl with | [_, _, _], _ => rfl, fun w base => ?_⟩⟩
  · intro f hf
    simp only [List.mem_cons, List.not_mem_nil, or_false] at hf
    rcases hf with rfl | rfl
    · exact n0
    · exact n1
  · exact x_excinit (k := 0) (N := ["self", "number", "word", "__class__"]) (ps := ["self", "number", "word"]) (fs := ["number", "word"]) l hcd (supC_mk T ce co v2 vf su sp iB oq tp) sc_xBadFair rfl rfl rfl zs rfl (by decide) (by decide)
      (by intro f hf; simp only [List.mem_cons, List.not_mem_nil, or_false] at hf; rcases hf with rfl | rfl <;> first | exact n0 | exact n1)
      (fun X hN hS => (pa_cons (pv 1 (by rw [hN] <;> rfl) (by rw [hS]; exact .inl rfl)) (pa_cons (pv 2 (by rw [hN] <;> rfl) (by rw [hS]; exact .inl rfl)) pa_nil))) (fun X hN hS hK => by rw [← hK]; exact (pss_cons (ps_ost (pv 0 (by rw [hN] <;> rfl) (by rw [hS]; exact .inl rfl)) (pv 1 (by rw [hN] <;> rfl) (by rw [hS]; exact .inl rfl))) (pss_cons (ps_ost (pv 0 (by rw [hN] <;> rfl) (by rw [hS]; exact .inl rfl)) (pv 2 (by rw [hN] <;> rfl) (by rw [hS]; exact .inl rfl))) pss_nil))) (fun _ => rfl) (fun _ => rfl) (fun _ => rfl) (fun _ => rfl)
theorem mkx_NoSuch {P : Program} {K : PySem.W.Frag} {h : Heap} {mg : Str → Option Value} (X : K.In h) (G : h.Ns mainGlobals mg) {C M N0 fI cc cda : Addr} {nm q file : Str} {tf : Tok} {bs : List Value} {sn : List Str} {sub : List Value} {ab : Bool} {col : Option Bool} {dd od an cld cdd : Option Addr} {m0 m1 m2 m3 m5 : Option Value} {sl csl ccs : Array (Option Value)} {vs : Array Value} {oc kV dc pm ct cl ccl : Value}
    (a : PySem.W.nsIn K mainGlobals "NoSuch" = some (some (.ref C))) (xL : K.lookup C = some (excClassObj nm q C N0 bs [.ref M, .type "ValueError", .type "Exception", .type "BaseException", .type "object"] true sn sub ab col dd m0 m1 m2 m3 m5 "ValueError.__new__"))
    (sa : PySem.W.findIn K (.ref C) "__setattr__" = some (some (.builtin "object.__setattr__"))) (eC : PySem.W.subIn K (.ref C) (.type "BaseException") = some true) (tC : PySem.W.typeIn K (.ref C) = some (.type "type")) (kC : PySem.W.keepIn K (.ref C) = true)
    (ga : PySem.W.findIn K (.ref C) "__getattribute__" = some (some (.builtin "BaseException.__getattribute__"))) (gg : PySem.W.findIn K (.ref C) "__getattr__" = some none) (hC : PySem.W.hasDictIn K C = true) (n0 : PySem.W.findIn K (.ref C) "word" = some none) (n1 : PySem.W.findIn K (.ref C) "name" = some none)
    (iC : PySem.W.findIn K (.ref C) "__init__" = some (some (.ref fI))) (tI : PySem.W.typeIn K (.ref fI) = some (.type "function"))
    (l : K.lookup fI = some ⟨oc, od, .func (PySem.W.ksFn "__init__" "NoSuch.__init__" (defArgs s_xNoSuch) (defBody s_xNoSuch) (defScope s_xNoSuch) .none kV dc pm an (.ref cda) ct cc), sl⟩) (hcd : PySem.W.codeIn K (.ref cda) "NoSuch.__init__" = true)
    (ce : K.lookup cc = some ⟨cl, cld, .cell (some (.ref C)), csl⟩) (co : K.lookup cda = some ⟨ccl, cdd, .fields vs, ccs⟩) (v2 : vs[2]? = some (.str file tf)) (vf : ((P.main.file : Str) == file) = true)
    (su : PySem.W.mroIn K C (.ref C) = some true) (sp : PySem.W.ks_superIn K C C "__init__" = some (some (.builtin "ValueError.__init__"))) (iB : PySem.W.subIn K (.ref C) (.type "ValueError") = some true) (oq : PySem.W.nsIn K cStatics "thirdparty.any" = some none)
    (tp : (P.main.scope.names.lookup ("super" : Str)).isSome = false) (zs : mg "super" = none) : Nonempty (ExcF P K mg "NoSuch" ["word", "name"] ["self", "word", "name"]) := by
  have T := oexC_mk xL sa eC tC kC
  refine ⟨⟨C, fI, PySem.W.ksFn "__init__" "NoSuch.__init__" (defArgs s_xNoSuch) (defBody s_xNoSuch) (defScope s_xNoSuch) .none kV dc pm an (.ref cda) ct cc, PySem.W.mg_of X G a, a, T, ⟨ga, gg, eC, hC⟩, ?_, iC, tI, .all fun us hl => match us, hl with | [_, _, _], _ => rfl, fun w base => ?_⟩⟩
  · intro f hf
    simp only [List.mem_cons, List.not_mem_nil, or_false] at hf
    rcases hf with rfl | rfl
    · exact n0
    · exact n1
  · exact x_excinit (k := 0) (N := ["self", "word", "name", "__class__"]) (ps := ["self", "word", "name"]) (fs := ["word", "name"]) l hcd (supC_mk T ce co v2 vf su sp iB oq tp) sc_xNoSuch rfl rfl rfl zs rfl (by decide) (by decide)
      (by intro f hf; simp only [List.mem_cons, List.not_mem_nil, or_false] at hf; rcases hf with rfl | rfl <;> first | exact n0 | exact n1)
      (fun X hN hS => (pa_cons (pv 1 (by rw [hN] <;> rfl) (by rw [hS]; exact .inl rfl)) (pa_cons (pv 2 (by rw [hN] <;> rfl) (by rw [hS]; exact .inl rfl)) pa_nil))) (fun X hN hS hK => by rw [← hK]; exact (pss_cons (ps_ost (pv 0 (by rw [hN] <;> rfl) (by rw [hS]; exact .inl rfl)) (pv 1 (by rw [hN] <;> rfl) (by rw [hS]; exact .inl rfl))) (pss_cons (ps_ost (pv 0 (by rw [hN] <;> rfl) (by rw [hS]; exact .inl rfl)) (pv 2 (by rw [hN] <;> rfl) (by rw [hS]; exact .inl rfl))) pss_nil))) (fun _ => rfl) (fun _ => rfl) (fun _ => rfl) (fun _ => rfl)
theorem mkt_MarketError {K : PySem.W.Frag} {h : Heap} {mg : Str → Option Value} (X : K.In h) (G : h.Ns mainGlobals mg) {k a_BadFair a_NoSuch : Addr} (a : PySem.W.nsIn K mainGlobals "MarketError" = some (some (.ref k))) (n_BadFair : PySem.W.nsIn K mainGlobals "BadFair" = some (some (.ref a_BadFair))) (s_BadFair : PySem.W.exmOne K (.ref a_BadFair) (.ref k) = some true) (n_NoSuch : PySem.W.nsIn K mainGlobals "NoSuch" = some (some (.ref a_NoSuch))) (s_NoSuch : PySem.W.exmOne K (.ref a_NoSuch) (.ref k) = some true) : ∃ k : Addr, mg "MarketError" = some (.ref k) ∧ ClsT K etab "MarketError" (.ref k) := ⟨k, PySem.W.mg_of X G a, clsT_of (tab_cons (tab_no (by decide)) (tab_cons (tab_yes n_BadFair s_BadFair) (tab_cons (tab_no (by decide)) (tab_cons (tab_no (by decide)) (tab_cons (tab_yes n_NoSuch s_NoSuch) (tab_cons (tab_no (by decide)) tab_nil))))))⟩
theorem mkt_BadFair {K : PySem.W.Frag} {h : Heap} {mg : Str → Option Value} (X : K.In h) (G : h.Ns mainGlobals mg) {k a_BadFair a_NoSuch : Addr} (a : PySem.W.nsIn K mainGlobals "BadFair" = some (some (.ref k))) (n_BadFair : PySem.W.nsIn K mainGlobals "BadFair" = some (some (.ref a_BadFair))) (s_BadFair : PySem.W.exmOne K (.ref a_BadFair) (.ref k) = some true) (n_NoSuch : PySem.W.nsIn K mainGlobals "NoSuch" = some (some (.ref a_NoSuch))) (s_NoSuch : PySem.W.exmOne K (.ref a_NoSuch) (.ref k) = some false) : ∃ k : Addr, mg "BadFair" = some (.ref k) ∧ ClsT K etab "BadFair" (.ref k) := ⟨k, PySem.W.mg_of X G a, clsT_of (tab_cons (tab_yes n_BadFair s_BadFair) (tab_cons (tab_no (by decide)) (tab_cons (tab_no (by decide)) (tab_cons (tab_yes n_NoSuch s_NoSuch) (tab_cons (tab_no (by decide)) (tab_cons (tab_no (by decide)) tab_nil))))))⟩
theorem mkt_NoSuch {K : PySem.W.Frag} {h : Heap} {mg : Str → Option Value} (X : K.In h) (G : h.Ns mainGlobals mg) {k a_BadFair a_NoSuch : Addr} (a : PySem.W.nsIn K mainGlobals "NoSuch" = some (some (.ref k))) (n_BadFair : PySem.W.nsIn K mainGlobals "BadFair" = some (some (.ref a_BadFair))) (s_BadFair : PySem.W.exmOne K (.ref a_BadFair) (.ref k) = some false) (n_NoSuch : PySem.W.nsIn K mainGlobals "NoSuch" = some (some (.ref a_NoSuch))) (s_NoSuch : PySem.W.exmOne K (.ref a_NoSuch) (.ref k) = some true) : ∃ k : Addr, mg "NoSuch" = some (.ref k) ∧ ClsT K etab "NoSuch" (.ref k) := ⟨k, PySem.W.mg_of X G a, clsT_of (tab_cons (tab_no (by decide)) (tab_cons (tab_no (by decide)) (tab_cons (tab_yes n_BadFair s_BadFair) (tab_cons (tab_no (by decide)) (tab_cons (tab_no (by decide)) (tab_cons (tab_yes n_NoSuch s_NoSuch) tab_nil))))))⟩
theorem mki_BadFair {K : PySem.W.Frag} {C : Addr} (a : PySem.W.nsIn K mainGlobals "BadFair" = some (some (.ref C))) (hg : PySem.W.findIn K (.ref C) "__getattribute__" = some (some (.builtin "BaseException.__getattribute__"))) (hk : PySem.W.findIn K (.ref C) "__getattr__" = some none) (hs : PySem.W.subIn K (.ref C) (.type "BaseException") = some true) (hd : PySem.W.hasDictIn K C = true) (ha : PySem.W.findIn K (.ref C) "__class__" = some (some (.builtin "object.__class__"))) (hn : PySem.W.specialIn K (.builtin "object.__class__") "__get__" = some (some (.builtin "getset_descriptor.__get__"))) (ht : PySem.W.takesIn K (.builtin "object.__class__") = some true) (hm : PySem.W.mroIn K C (.type "object") = some true) : ∀ D : Addr, PySem.W.nsIn K mainGlobals "BadFair" = some (some (.ref D)) → ExcC K D := fun D h => by rw [a] at h; cases h; exact ⟨hg, hk, hs, hd, ha, hn, ht, hm⟩
theorem mkq_BadFair_ValueError {K : PySem.W.Frag} {C : Addr} (a : PySem.W.nsIn K mainGlobals "BadFair" = some (some (.ref C))) (k : PySem.W.subIn K (.ref C) (.type "ValueError") = some true) : ∀ D : Addr, PySem.W.nsIn K mainGlobals "BadFair" = some (some (.ref D)) → PySem.W.kitOne K (.ref D) (.type "ValueError") = some true := fun D h => by rw [a] at h; cases h; exact kitT (by decide +kernel) k
theorem mkq_BadFair_MarketError {K : PySem.W.Frag} {h : Heap} {mg : Str → Option Value} (X : K.In h) (G : h.Ns mainGlobals mg) {C T : Addr} (a : PySem.W.nsIn K mainGlobals "BadFair" = some (some (.ref C))) (m : PySem.W.nsIn K mainGlobals "MarketError" = some (some (.ref T))) (h2 : PySem.W.isClsIn K T = true) (h3 : PySem.W.typeIn K (.ref T) = some (.type "type")) (h4 : PySem.W.subIn K (.ref C) (.ref T) = some true) : ∃ T : Addr, mg "MarketError" = some (.ref T) ∧ ∀ D : Addr, PySem.W.nsIn K mainGlobals "BadFair" = some (some (.ref D)) → PySem.W.kitOne K (.ref D) (.ref T) = some true := ⟨T, PySem.W.mg_of X G m, fun D h => by rw [a] at h; cases h; exact kitC h2 h3 h4⟩
theorem facts_mk {P : Program} {K : PySem.W.Frag} {mg : Str → Option Value} (e_xBadFair : Nonempty (ExcF P K mg "BadFair" ["number", "word"] ["self", "number", "word"])) (e_xNoSuch : Nonempty (ExcF P K mg "NoSuch" ["word", "name"] ["self", "word", "name"])) (e_kMarketError : ∃ k : Addr, mg "MarketError" = some (.ref k) ∧ ClsT K etab "MarketError" (.ref k)) (e_kBadFair : ∃ k : Addr, mg "BadFair" = some (.ref k) ∧ ClsT K etab "BadFair" (.ref k)) (e_kNoSuch : ∃ k : Addr, mg "NoSuch" = some (.ref k) ∧ ClsT K etab "NoSuch" (.ref k)) (e_iC_BadFair : ∀ D : Addr, PySem.W.nsIn K mainGlobals "BadFair" = some (some (.ref D)) → ExcC K D) (e_q_BadFair_ValueError : ∀ D : Addr, PySem.W.nsIn K mainGlobals "BadFair" = some (some (.ref D)) → PySem.W.kitOne K (.ref D) (.type "ValueError") = some true) (e_q_BadFair_MarketError : ∃ T : Addr, mg "MarketError" = some (.ref T) ∧ ∀ D : Addr, PySem.W.nsIn K mainGlobals "BadFair" = some (some (.ref D)) → PySem.W.kitOne K (.ref D) (.ref T) = some true) (e_is_name : ∃ (f : Addr) (fd : FuncData), Fun K "is_name" "is_name" s_is_name f fd ∧ mg "is_name" = some (.ref f)) (e_is_integer : ∃ (f : Addr) (fd : FuncData), Fun K "is_integer" "is_integer" s_is_integer f fd ∧ mg "is_integer" = some (.ref f)) (e_trader_word : ∃ (f : Addr) (fd : FuncData), Fun K "trader_word" "trader_word" s_trader_word f fd ∧ mg "trader_word" = some (.ref f)) (e_check_fair : ∃ (f : Addr) (fd : FuncData), Fun K "check_fair" "check_fair" s_check_fair f fd ∧ mg "check_fair" = some (.ref f)) (e_found_holding : ∃ (f : Addr) (fd : FuncData), Fun K "found_holding" "found_holding" s_found_holding f fd ∧ mg "found_holding" = some (.ref f)) (e_holding_of : ∃ (f : Addr) (fd : FuncData), Fun K "holding_of" "holding_of" s_holding_of f fd ∧ mg "holding_of" = some (.ref f)) (e_is_start_fair : ∃ (f : Addr) (fd : FuncData), Fun K "is_start_fair" "is_start_fair" s_is_start_fair f fd ∧ mg "is_start_fair" = some (.ref f)) (e_total_money : ∃ (f : Addr) (fd : FuncData), Fun K "total_money" "total_money" s_total_money f fd ∧ mg "total_money" = some (.ref f)) (e__law_same : ∃ (f : Addr) (fd : FuncData), Fun K "_law_same" "_law_same" s__law_same f fd ∧ mg "_law_same" = some (.ref f)) (e__law_draw : ∃ (f : Addr) (fd : FuncData), Fun K "_law_draw" "_law_draw" s__law_draw f fd ∧ mg "_law_draw" = some (.ref f)) (e__law_words : ∃ (f : Addr) (fd : FuncData), Fun K "_law_words" "_law_words" s__law_words f fd ∧ mg "_law_words" = some (.ref f)) (e__law_name : ∃ (f : Addr) (fd : FuncData), Fun K "_law_name" "_law_name" s__law_name f fd ∧ mg "_law_name" = some (.ref f)) (e__law_names : ∃ (f : Addr) (fd : FuncData), Fun K "_law_names" "_law_names" s__law_names f fd ∧ mg "_law_names" = some (.ref f)) (e__law_is_name : ∃ (f : Addr) (fd : FuncData), Fun K "_law_is_name" "_law_is_name" s__law_is_name f fd ∧ mg "_law_is_name" = some (.ref f)) (e__law_market : ∃ (f : Addr) (fd : FuncData), Fun K "_law_market" "_law_market" s__law_market f fd ∧ mg "_law_market" = some (.ref f)) (e__law_fair : ∃ (f : Addr) (fd : FuncData), Fun K "_law_fair" "_law_fair" s__law_fair f fd ∧ mg "_law_fair" = some (.ref f)) (e__law_due : ∃ (f : Addr) (fd : FuncData), Fun K "_law_due" "_law_due" s__law_due f fd ∧ mg "_law_due" = some (.ref f)) (e__law_checked : ∃ (f : Addr) (fd : FuncData), Fun K "_law_checked" "_law_checked" s__law_checked f fd ∧ mg "_law_checked" = some (.ref f)) (e__law_held : ∃ (f : Addr) (fd : FuncData), Fun K "_law_held" "_law_held" s__law_held f fd ∧ mg "_law_held" = some (.ref f)) (e__law_put : ∃ (f : Addr) (fd : FuncData), Fun K "_law_put" "_law_put" s__law_put f fd ∧ mg "_law_put" = some (.ref f)) (e__law_no_row : ∃ (f : Addr) (fd : FuncData), Fun K "_law_no_row" "_law_no_row" s__law_no_row f fd ∧ mg "_law_no_row" = some (.ref f)) (e__law_no_name : ∃ (f : Addr) (fd : FuncData), Fun K "_law_no_name" "_law_no_name" s__law_no_name f fd ∧ mg "_law_no_name" = some (.ref f)) (e__law_bent : ∃ (f : Addr) (fd : FuncData), Fun K "_law_bent" "_law_bent" s__law_bent f fd ∧ mg "_law_bent" = some (.ref f)) (e__law_two : ∃ (f : Addr) (fd : FuncData), Fun K "_law_two" "_law_two" s__law_two f fd ∧ mg "_law_two" = some (.ref f)) (e_law : ∃ (f : Addr) (fd : FuncData), Fun K "law" "law" s_law f fd ∧ mg "law" = some (.ref f)) (c_KEPT : GConst K mg "KEPT" (.tup [(.str "good"), (.str "start"), (.str "offer"), (.str "other"), (.str "house"), (.str "least"), (.str "most"), (.str "from"), (.str "turn"), (.str "rests"), (.str "none"), (.str "never"), (.str "may"), (.str "deal"), (.str "join")])) (c_SMALL : GConst K mg "SMALL" (.str "abcdefghijklmnopqrstuvwxyz")) (c_FIGURES : GConst K mg "FIGURES" (.str "0123456789")) (z_isinstance : mg "isinstance" = none) (z_str : mg "str" = none) (z_len : mg "len" = none) (z_all : mg "all" = none) (z_int : mg "int" = none) (z_bool : mg "bool" = none) (z_tuple : mg "tuple" = none) (z_enumerate : mg "enumerate" = none) (z_sum : mg "sum" = none) (z_zip : mg "zip" = none) (z_range : mg "range" = none) (z_sorted : mg "sorted" = none) (z_ValueError : mg "ValueError" = none) (z_list : mg "list" = none)  : Nonempty (Facts P K mg) := by
  obtain ⟨x_BadFair⟩ := e_xBadFair
  obtain ⟨x_NoSuch⟩ := e_xNoSuch
  obtain ⟨k_MarketError, gk_MarketError, t_MarketError⟩ := e_kMarketError
  obtain ⟨k_BadFair, gk_BadFair, t_BadFair⟩ := e_kBadFair
  obtain ⟨k_NoSuch, gk_NoSuch, t_NoSuch⟩ := e_kNoSuch
  obtain ⟨q_BadFair_MarketError, gq_BadFair_MarketError, tq_BadFair_MarketError⟩ := e_q_BadFair_MarketError
  obtain ⟨a_is_name, d_is_name, F_is_name, g_is_name⟩ := e_is_name
  obtain ⟨a_is_integer, d_is_integer, F_is_integer, g_is_integer⟩ := e_is_integer
  obtain ⟨a_trader_word, d_trader_word, F_trader_word, g_trader_word⟩ := e_trader_word
  obtain ⟨a_check_fair, d_check_fair, F_check_fair, g_check_fair⟩ := e_check_fair
  obtain ⟨a_found_holding, d_found_holding, F_found_holding, g_found_holding⟩ := e_found_holding
  obtain ⟨a_holding_of, d_holding_of, F_holding_of, g_holding_of⟩ := e_holding_of
  obtain ⟨a_is_start_fair, d_is_start_fair, F_is_start_fair, g_is_start_fair⟩ := e_is_start_fair
  obtain ⟨a_total_money, d_total_money, F_total_money, g_total_money⟩ := e_total_money
  obtain ⟨a__law_same, d__law_same, F__law_same, g__law_same⟩ := e__law_same
  obtain ⟨a__law_draw, d__law_draw, F__law_draw, g__law_draw⟩ := e__law_draw
  obtain ⟨a__law_words, d__law_words, F__law_words, g__law_words⟩ := e__law_words
  obtain ⟨a__law_name, d__law_name, F__law_name, g__law_name⟩ := e__law_name
  obtain ⟨a__law_names, d__law_names, F__law_names, g__law_names⟩ := e__law_names
  obtain ⟨a__law_is_name, d__law_is_name, F__law_is_name, g__law_is_name⟩ := e__law_is_name
  obtain ⟨a__law_market, d__law_market, F__law_market, g__law_market⟩ := e__law_market
  obtain ⟨a__law_fair, d__law_fair, F__law_fair, g__law_fair⟩ := e__law_fair
  obtain ⟨a__law_due, d__law_due, F__law_due, g__law_due⟩ := e__law_due
  obtain ⟨a__law_checked, d__law_checked, F__law_checked, g__law_checked⟩ := e__law_checked
  obtain ⟨a__law_held, d__law_held, F__law_held, g__law_held⟩ := e__law_held
  obtain ⟨a__law_put, d__law_put, F__law_put, g__law_put⟩ := e__law_put
  obtain ⟨a__law_no_row, d__law_no_row, F__law_no_row, g__law_no_row⟩ := e__law_no_row
  obtain ⟨a__law_no_name, d__law_no_name, F__law_no_name, g__law_no_name⟩ := e__law_no_name
  obtain ⟨a__law_bent, d__law_bent, F__law_bent, g__law_bent⟩ := e__law_bent
  obtain ⟨a__law_two, d__law_two, F__law_two, g__law_two⟩ := e__law_two
  obtain ⟨a_law, d_law, F_law, g_law⟩ := e_law
  exact ⟨⟨x_BadFair, x_NoSuch, k_MarketError, gk_MarketError, t_MarketError, k_BadFair, gk_BadFair, t_BadFair, k_NoSuch, gk_NoSuch, t_NoSuch, e_iC_BadFair, e_q_BadFair_ValueError, q_BadFair_MarketError, gq_BadFair_MarketError, tq_BadFair_MarketError, a_is_name, d_is_name, F_is_name, g_is_name, a_is_integer, d_is_integer, F_is_integer, g_is_integer, a_trader_word, d_trader_word, F_trader_word, g_trader_word, a_check_fair, d_check_fair, F_check_fair, g_check_fair, a_found_holding, d_found_holding, F_found_holding, g_found_holding, a_holding_of, d_holding_of, F_holding_of, g_holding_of, a_is_start_fair, d_is_start_fair, F_is_start_fair, g_is_start_fair, a_total_money, d_total_money, F_total_money, g_total_money, a__law_same, d__law_same, F__law_same, g__law_same, a__law_draw, d__law_draw, F__law_draw, g__law_draw, a__law_words, d__law_words, F__law_words, g__law_words, a__law_name, d__law_name, F__law_name, g__law_name, a__law_names, d__law_names, F__law_names, g__law_names, a__law_is_name, d__law_is_name, F__law_is_name, g__law_is_name, a__law_market, d__law_market, F__law_market, g__law_market, a__law_fair, d__law_fair, F__law_fair, g__law_fair, a__law_due, d__law_due, F__law_due, g__law_due, a__law_checked, d__law_checked, F__law_checked, g__law_checked, a__law_held, d__law_held, F__law_held, g__law_held, a__law_put, d__law_put, F__law_put, g__law_put, a__law_no_row, d__law_no_row, F__law_no_row, g__law_no_row, a__law_no_name, d__law_no_name, F__law_no_name, g__law_no_name, a__law_bent, d__law_bent, F__law_bent, g__law_bent, a__law_two, d__law_two, F__law_two, g__law_two, a_law, d_law, F_law, g_law, c_KEPT, c_SMALL, c_FIGURES, z_isinstance, z_str, z_len, z_all, z_int, z_bool, z_tuple, z_enumerate, z_sum, z_zip, z_range, z_sorted, z_ValueError, z_list⟩⟩
theorem law_fd {P : Program} {w : World} {K : PySem.W.Frag} {mg : Str → Option Value} {fa : Addr} (hfa : mg "law" = some (.ref fa)) (Fc : Nonempty (Facts P K mg)) : ∃ fd : FuncData, (∀ (s : Shared) (v : Value), BindsTo s fd ⟨[v], []⟩ [("script", v)]) ∧ ∀ base : Heap, K.In base → base.Ns mainGlobals mg → FnOk P w K mg base CX0 7 fa fd ["script"] (spM ⟨K, P, w⟩ m_law) := by
  obtain ⟨Fc⟩ := Fc
  have e : fa = Fc.a_law := by have h := hfa.symm.trans Fc.g_law; cases h; rfl
  subst e
  refine ⟨Fc.d_law, fun s v => ?_, fun base _ _ => ok_law Fc⟩
  obtain ⟨oc, od, kV, doc, pm, an, cdv, ct, osl, e, lk, hcd⟩ := Fc.F_law.ex
  rw [e]
  exact .of_eq rfl
theorem law_sp {C : Cy} (H : Hp) (a : Addr) (ns : List Int) (hn : ns.length ≤ 63) (hS : SqL C.K H a (ns.map V.int)) : spM C m_law [.ref a] H (fun v _ => v = .bl true) fun _ _ _ => False := by
  obtain ⟨st, h⟩ := law_true ns hn
  exact ⟨⟨H, []⟩, [], [.fro (ns.map D.int)], [], .bl true, st, ⟨.ref a, [], rfl, ⟨a, _, rfl, hS, Reps.of_ints ns⟩, rfl⟩, ⟨Same.refl _, List.nodup_nil, rfl, fun a h => (List.not_mem_nil h).elim, fun n a o h => by simp at h, fun q h => (List.not_mem_nil h).elim⟩, h, fun v H0 as H1 _ _ r => r⟩
end K21
open PySem PySem.W PyProof.Rows
set_option maxHeartbeats 0 in
theorem PySem.Challenge.cw_moneyheld_k21_fairs_holds : PySem.Challenge.rw_moneyheld_k21_fairs.Holds := by
  w_on; o_law; k_head; (case hw => w_witness2)
  k_fill
  refine L2.walk_of (l := PySem.Challenge.rw_moneyheld_k21_fairs) (n := 63) (k := 7) (x := "script") (CX := fun _ => L2.CX0) (sp := fun w => My.spM ⟨_, PySem.Challenge.rw_moneyheld_k21_fairs.prog, w⟩ K21.m_law) rfl (by decide) rfl ⟨rfl, by decide, by decide⟩ (fun w h Y => PySem.W.kIn_of Y) ?F (fun _ H a ns hl _ hS => K21.law_sp H a ns hl hS) (fun _ _ _ _ _ h => h)
  case F =>
    intro w mg fa h KX G hmg
    refine' K21.law_fd hmg (K21.facts_mk ?e_xBadFair ?e_xNoSuch ?e_kMarketError ?e_kBadFair ?e_kNoSuch ?e_iC_BadFair ?e_q_BadFair_ValueError ?e_q_BadFair_MarketError ?e_is_name ?e_is_integer ?e_trader_word ?e_check_fair ?e_found_holding ?e_holding_of ?e_is_start_fair ?e_total_money ?e__law_same ?e__law_draw ?e__law_words ?e__law_name ?e__law_names ?e__law_is_name ?e__law_market ?e__law_fair ?e__law_due ?e__law_checked ?e__law_held ?e__law_put ?e__law_no_row ?e__law_no_name ?e__law_bent ?e__law_two ?e_law ?c_KEPT ?c_SMALL ?c_FIGURES ?z_isinstance ?z_str ?z_len ?z_all ?z_int ?z_bool ?z_tuple ?z_enumerate ?z_sum ?z_zip ?z_range ?z_sorted ?z_ValueError ?z_list)
    (case e_xBadFair => refine' K21.mkx_BadFair KX G ?a ?xL ?sa ?eC ?tC ?kC ?ga ?gg ?hC ?n0 ?n1 ?iC ?tI ?l ?hcd ?ce ?co ?v2 ?vf ?su ?sp ?iB ?oq ?tp ?zs; (case a => k_is); (case xL => k_is); (case sa => k_is); (case eC => k_is); (case tC => k_is); (case kC => k_is); (case ga => k_is); (case gg => k_is); (case hC => k_is); (case n0 => k_is); (case n1 => k_is); (case iC => k_is); (case tI => k_is); (case l => k_is); (case hcd => k_is); (case ce => k_is); (case co => k_is); (case v2 => rfl); (case vf => (first | rfl | decide +kernel)); (case su => k_is); (case sp => (first | ks_is | k_is)); (case iB => k_is); (case oq => k_is); (case tp => (first | rfl | decide +kernel)); (case zs => (refine' PySem.W.mg_none_of KX G ?_; k_is)))
    (case e_xNoSuch => refine' K21.mkx_NoSuch KX G ?a ?xL ?sa ?eC ?tC ?kC ?ga ?gg ?hC ?n0 ?n1 ?iC ?tI ?l ?hcd ?ce ?co ?v2 ?vf ?su ?sp ?iB ?oq ?tp ?zs; (case a => k_is); (case xL => k_is); (case sa => k_is); (case eC => k_is); (case tC => k_is); (case kC => k_is); (case ga => k_is); (case gg => k_is); (case hC => k_is); (case n0 => k_is); (case n1 => k_is); (case iC => k_is); (case tI => k_is); (case l => k_is); (case hcd => k_is); (case ce => k_is); (case co => k_is); (case v2 => rfl); (case vf => (first | rfl | decide +kernel)); (case su => k_is); (case sp => (first | ks_is | k_is)); (case iB => k_is); (case oq => k_is); (case tp => (first | rfl | decide +kernel)); (case zs => (refine' PySem.W.mg_none_of KX G ?_; k_is)))
    (case e_kMarketError => refine' K21.mkt_MarketError KX G ?a ?n_BadFair ?s_BadFair ?n_NoSuch ?s_NoSuch; (case a => k_is); (case n_BadFair => k_is); (case s_BadFair => exact My.exm_of (by k_is) (by k_is) (by k_is) (by k_is)); (case n_NoSuch => k_is); (case s_NoSuch => exact My.exm_of (by k_is) (by k_is) (by k_is) (by k_is)))
    (case e_kBadFair => refine' K21.mkt_BadFair KX G ?a ?n_BadFair ?s_BadFair ?n_NoSuch ?s_NoSuch; (case a => k_is); (case n_BadFair => k_is); (case s_BadFair => exact My.exm_of (by k_is) (by k_is) (by k_is) (by k_is)); (case n_NoSuch => k_is); (case s_NoSuch => exact My.exm_of (by k_is) (by k_is) (by k_is) (by k_is)))
    (case e_kNoSuch => refine' K21.mkt_NoSuch KX G ?a ?n_BadFair ?s_BadFair ?n_NoSuch ?s_NoSuch; (case a => k_is); (case n_BadFair => k_is); (case s_BadFair => exact My.exm_of (by k_is) (by k_is) (by k_is) (by k_is)); (case n_NoSuch => k_is); (case s_NoSuch => exact My.exm_of (by k_is) (by k_is) (by k_is) (by k_is)))
    (case e_iC_BadFair => refine' K21.mki_BadFair ?a ?hg ?hk ?hs ?hd ?ha ?hn ?ht ?hm; (case a => k_is); (case hg => k_is); (case hk => k_is); (case hs => k_is); (case hd => k_is); (case ha => k_is); (case hn => k_is); (case ht => k_is); (case hm => k_is))
    (case e_q_BadFair_ValueError => refine' K21.mkq_BadFair_ValueError ?a ?k; (case a => k_is); (case k => k_is))
    (case e_q_BadFair_MarketError => refine' K21.mkq_BadFair_MarketError KX G ?a ?m ?h2 ?h3 ?h4; (case a => k_is); (case m => k_is); (case h2 => k_is); (case h3 => k_is); (case h4 => k_is))
    (case e_is_name => refine' K21.mk_is_name KX G ?a ?l ?c ?k; (case a => k_is); (case l => k_is); (case c => k_is); (case k => k_is))
    (case e_is_integer => refine' K21.mk_is_integer KX G ?a ?l ?c ?k; (case a => k_is); (case l => k_is); (case c => k_is); (case k => k_is))
    (case e_trader_word => refine' K21.mk_trader_word KX G ?a ?l ?c ?k; (case a => k_is); (case l => k_is); (case c => k_is); (case k => k_is))
    (case e_check_fair => refine' K21.mk_check_fair KX G ?a ?l ?c ?k; (case a => k_is); (case l => k_is); (case c => k_is); (case k => k_is))
    (case e_found_holding => refine' K21.mk_found_holding KX G ?a ?l ?c ?k; (case a => k_is); (case l => k_is); (case c => k_is); (case k => k_is))
    (case e_holding_of => refine' K21.mk_holding_of KX G ?a ?l ?c ?k; (case a => k_is); (case l => k_is); (case c => k_is); (case k => k_is))
    (case e_is_start_fair => refine' K21.mk_is_start_fair KX G ?a ?l ?c ?k; (case a => k_is); (case l => k_is); (case c => k_is); (case k => k_is))
    (case e_total_money => refine' K21.mk_total_money KX G ?a ?l ?c ?k; (case a => k_is); (case l => k_is); (case c => k_is); (case k => k_is))
    (case e__law_same => refine' K21.mk__law_same KX G ?a ?l ?c ?k; (case a => k_is); (case l => k_is); (case c => k_is); (case k => k_is))
    (case e__law_draw => refine' K21.mk__law_draw KX G ?a ?l ?c ?k; (case a => k_is); (case l => k_is); (case c => k_is); (case k => k_is))
    (case e__law_words => refine' K21.mk__law_words KX G ?a ?l ?c ?k; (case a => k_is); (case l => k_is); (case c => k_is); (case k => k_is))
    (case e__law_name => refine' K21.mk__law_name KX G ?a ?l ?c ?k; (case a => k_is); (case l => k_is); (case c => k_is); (case k => k_is))
    (case e__law_names => refine' K21.mk__law_names KX G ?a ?l ?c ?k; (case a => k_is); (case l => k_is); (case c => k_is); (case k => k_is))
    (case e__law_is_name => refine' K21.mk__law_is_name KX G ?a ?l ?c ?k; (case a => k_is); (case l => k_is); (case c => k_is); (case k => k_is))
    (case e__law_market => refine' K21.mk__law_market KX G ?a ?l ?c ?k; (case a => k_is); (case l => k_is); (case c => k_is); (case k => k_is))
    (case e__law_fair => refine' K21.mk__law_fair KX G ?a ?l ?c ?k; (case a => k_is); (case l => k_is); (case c => k_is); (case k => k_is))
    (case e__law_due => refine' K21.mk__law_due KX G ?a ?l ?c ?k; (case a => k_is); (case l => k_is); (case c => k_is); (case k => k_is))
    (case e__law_checked => refine' K21.mk__law_checked KX G ?a ?l ?c ?k; (case a => k_is); (case l => k_is); (case c => k_is); (case k => k_is))
    (case e__law_held => refine' K21.mk__law_held KX G ?a ?l ?c ?k; (case a => k_is); (case l => k_is); (case c => k_is); (case k => k_is))
    (case e__law_put => refine' K21.mk__law_put KX G ?a ?l ?c ?k; (case a => k_is); (case l => k_is); (case c => k_is); (case k => k_is))
    (case e__law_no_row => refine' K21.mk__law_no_row KX G ?a ?l ?c ?k; (case a => k_is); (case l => k_is); (case c => k_is); (case k => k_is))
    (case e__law_no_name => refine' K21.mk__law_no_name KX G ?a ?l ?c ?k; (case a => k_is); (case l => k_is); (case c => k_is); (case k => k_is))
    (case e__law_bent => refine' K21.mk__law_bent KX G ?a ?l ?c ?k; (case a => k_is); (case l => k_is); (case c => k_is); (case k => k_is))
    (case e__law_two => refine' K21.mk__law_two KX G ?a ?l ?c ?k; (case a => k_is); (case l => k_is); (case c => k_is); (case k => k_is))
    (case e_law => refine' K21.mk_law KX G ?a ?l ?c ?k; (case a => k_is); (case l => k_is); (case c => k_is); (case k => k_is))
    (case c_KEPT => refine' K21.mkc_KEPT KX G ?g ?l0; (case g => k_is); (case l0 => k_is))
    (case c_SMALL => refine' K21.mkc_SMALL KX G ?g ; (case g => k_is))
    (case c_FIGURES => refine' K21.mkc_FIGURES KX G ?g ; (case g => k_is))
    (case z_isinstance => refine' PySem.W.mg_none_of KX G ?_; k_is)
    (case z_str => refine' PySem.W.mg_none_of KX G ?_; k_is)
    (case z_len => refine' PySem.W.mg_none_of KX G ?_; k_is)
    (case z_all => refine' PySem.W.mg_none_of KX G ?_; k_is)
    (case z_int => refine' PySem.W.mg_none_of KX G ?_; k_is)
    (case z_bool => refine' PySem.W.mg_none_of KX G ?_; k_is)
    (case z_tuple => refine' PySem.W.mg_none_of KX G ?_; k_is)
    (case z_enumerate => refine' PySem.W.mg_none_of KX G ?_; k_is)
    (case z_sum => refine' PySem.W.mg_none_of KX G ?_; k_is)
    (case z_zip => refine' PySem.W.mg_none_of KX G ?_; k_is)
    (case z_range => refine' PySem.W.mg_none_of KX G ?_; k_is)
    (case z_sorted => refine' PySem.W.mg_none_of KX G ?_; k_is)
    (case z_ValueError => refine' PySem.W.mg_none_of KX G ?_; k_is)
    (case z_list => refine' PySem.W.mg_none_of KX G ?_; k_is)

