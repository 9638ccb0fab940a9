import PyProof.Rows.All
import Wide.All
import OpenK.AllK
import Wide.FinOn
import HandS.ForMost
import HandS.Exc
import HandS.Slots
import HandS.SlotsOwn
import HandS.Lambda
import HandS.Deep
import HandS.TupAny
import HandS.Strs
import HandS.TupMul
import HandS.Star
import HandS.IsInst
import HandS.SortInts
import KE.KSortedM
import HandS.Replace
import KE.GoesEnum
import HandS.DictComp
import HandS.CallSlots
import HandS.Small
import HandS.More
import KE.KEqDict
import KE.KDictZip
import HandS.Conv
import HandS.SetFor
import HandS.FStr
import KE.DataMinMax
import KE.SortData
import HandS.Style
import HandS.TryMany
import HandS.TryOnly
import HandS.ExcInit
import HandS.ExcOwn
import HandS.ExcField
import HandS.ClsMeth
import HandS.OwnEq
import HandS.HeadHook1
import HandS.HeadHook2
import HandS.Defaults
import HandS.Codes
import HandS.Head0
import HandS.Head1
import HandS.Head2
import HandS.HeadEnd
import HandS.HeadHook3
import HandS.HeadHook4
import HandS.Words
import HandS.EndBits
import HandS.HeadWalk
import PySem.Challenge.RW_lostplates_k35_learning_rejected
set_option Elab.async false
set_option linter.all false
set_option maxRecDepth 100000
set_option maxHeartbeats 0
namespace Lo
open PySem PySem.Spec PyProof.Rows L2
inductive D where
  | non
  | bl (b : Bool)
  | int (i : Int)
  | str (x : Str)
  | tup (xs : List D)
  | lst (xs : List D)
  | scr (xs : List D)
  | dic (kvs : List (Key × D))
  | obj (c : Nat) (fs : List D)
  | fn (i : Nat)
  | cl (i : Nat)
  | ty (n : String)
  | loc (n : Nat)
  | xn (c : Nat) (fs : List (Str × D))
inductive O where
  | lst (xs : List D)
  | dic (kvs : List (Key × D))
  | ins (c : Nat) (fs : List (Option D))
  | ind (c : Nat) (fs : List (Str × D))
structure GI where
  K : PySem.W.Frag
  mg : Str → Option Value
  fnA : Nat → Addr
  clA : Nat → Addr
  xn : Option (Addr × Option Addr)
  tabs : List (Addr × Str)
structure AM where
  ob : Nat → Addr
  dx : Nat → Addr
def TupAt (K : PySem.W.Frag) (F : Hp) (a : Addr) (vs : List V) : Prop :=
  (∃ o : Obj, F a = some (.frz o (.tup vs)) ∧ o.dict = none) ∨
    ∃ (o : Obj) (its : Array Value) (n : Nat), K.lookup a = some o ∧ o.cls = .type "tuple" ∧ o.dict = none ∧ o.data = .seq its n ∧ its.size ≤ sizeLine ∧ Vals vs its.toList
theorem TupAt.sq {K : PySem.W.Frag} {F : Hp} {a : Addr} {vs : List V} (h : TupAt K F a vs) : SqT K F a vs := by
  rcases h with ⟨o, h, _⟩ | ⟨o, its, n, h1, h2, _, h3, h4, h5⟩
  · exact .inl (.inr ⟨o, h⟩)
  · exact .inr ⟨o, its, n, h1, h2, h3, h4, h5⟩
mutual
inductive RD (G : GI) (ρ : AM) (m : Nat) (F : Hp) : D → V → Prop
  | non : RD G ρ m F .non .non
  | bl (b : Bool) : RD G ρ m F (.bl b) (.bl b)
  | int (i : Int) : RD G ρ m F (.int i) (.int i)
  | str (x : Str) : RD G ρ m F (.str x) (.str x)
  | tup {a : Addr} {xs : List D} {vs : List V} : TupAt G.K F a vs → RDs G ρ m F xs vs → RD G ρ m F (.tup xs) (.ref a)
  | lst {a : Addr} {xs : List D} {vs : List V} : F a = some (.lst vs) → RDs G ρ m F xs vs → RD G ρ m F (.lst xs) (.ref a)
  | scr {a : Addr} {xs : List D} {vs : List V} : SqL G.K F a vs → RDs G ρ m F xs vs → RD G ρ m F (.scr xs) (.ref a)
  | dic {a : Addr} {kvs : List (Key × D)} {ks : List (Key × V)} : Rd F a (.dK ks) → RDk G ρ m F kvs ks → RD G ρ m F (.dic kvs) (.ref a)
  | obj {a dx : Addr} {c : Nat} {fs : List D} {vs : List (Option V)} : F a = some (SlX.SlO a (G.clA c) dx vs) → F dx = some (.xd []) → RDo G ρ m F fs vs → RD G ρ m F (.obj c fs) (.ref a)
  | fn (i : Nat) : RD G ρ m F (.fn i) (.ref (G.fnA i))
  | cl (i : Nat) : RD G ρ m F (.cl i) (.ref (G.clA i))
  | ty (n : String) : RD G ρ m F (.ty n) (.ty n)
  | loc (n : Nat) : n < m → RD G ρ m F (.loc n) (.ref (ρ.ob n))
  | xn0 {a : Addr} {c : Nat} : G.xn = some (a, none) → RD G ρ m F (.xn c []) (.ref a)
  | xn1 {a b : Addr} {c : Nat} {f : Str × D} {fs : List (Str × D)} {vs : List (Str × V)} : G.xn = some (a, some b) → F b = some (.xd vs) → RDn G ρ m F (f :: fs) vs → RD G ρ m F (.xn c (f :: fs)) (.ref a)
inductive RDs (G : GI) (ρ : AM) (m : Nat) (F : Hp) : List D → List V → Prop
  | nil : RDs G ρ m F [] []
  | cons {d : D} {v : V} {ds : List D} {vs : List V} : RD G ρ m F d v → RDs G ρ m F ds vs → RDs G ρ m F (d :: ds) (v :: vs)
inductive RDk (G : GI) (ρ : AM) (m : Nat) (F : Hp) : List (Key × D) → List (Key × V) → Prop
  | nil : RDk G ρ m F [] []
  | cons {k : Key} {d : D} {v : V} {ds : List (Key × D)} {vs : List (Key × V)} : RD G ρ m F d v → RDk G ρ m F ds vs → RDk G ρ m F ((k, d) :: ds) ((k, v) :: vs)
inductive RDn (G : GI) (ρ : AM) (m : Nat) (F : Hp) : List (Str × D) → List (Str × V) → Prop
  | nil : RDn G ρ m F [] []
  | cons {k : Str} {d : D} {v : V} {ds : List (Str × D)} {vs : List (Str × V)} : RD G ρ m F d v → RDn G ρ m F ds vs → RDn G ρ m F ((k, d) :: ds) ((k, v) :: vs)
inductive RDo (G : GI) (ρ : AM) (m : Nat) (F : Hp) : List D → List (Option V) → Prop
  | nil {vs : List (Option V)} : RDo G ρ m F [] vs
  | cons {d : D} {v : V} {ds : List D} {vs : List (Option V)} : RD G ρ m F d v → RDo G ρ m F ds vs → RDo G ρ m F (d :: ds) (some v :: vs)
end
def Sub (F F' : Hp) : Prop := ∀ a o, F a = some o → F' a = some o
theorem Sub.refl (F : Hp) : Sub F F := fun _ _ h => h
theorem Sub.trans {A B C : Hp} (x : Sub A B) (y : Sub B C) : Sub A C := fun a o h => y a o (x a o h)
theorem Sub.rd {F F' : Hp} (s : Sub F F') {a : Addr} {u : HO} (h : Rd F a u) : Rd F' a u := by
  rcases h with h | ⟨o, h⟩
  · exact .inl (s _ _ h)
  · exact .inr ⟨o, s _ _ h⟩
theorem Sub.sqT {F F' : Hp} (s : Sub F F') {K : PySem.W.Frag} {a : Addr} {xs : List V} (h : SqT K F a xs) : SqT K F' a xs := by
  rcases h with h | h
  · exact .inl (s.rd h)
  · exact .inr h
theorem Sub.sqL {F F' : Hp} (s : Sub F F') {K : PySem.W.Frag} {a : Addr} {xs : List V} (h : SqL K F a xs) : SqL K F' a xs := by
  rcases h with h | h
  · exact .inl (s.rd h)
  · exact .inr h
theorem Sub.tupAt {F F' : Hp} (s : Sub F F') {K : PySem.W.Frag} {a : Addr} {xs : List V} (h : TupAt K F a xs) : TupAt K F' a xs := by
  rcases h with ⟨o, h, e⟩ | h
  · exact .inl ⟨o, s _ _ h, e⟩
  · exact .inr h
def SubW (F F' : Hp) : Prop := ∀ a o, F a = some o → F' a = some o ∨ ∃ kvs ob, o = .dK kvs ∧ F' a = some (.frz ob (.dK kvs))
theorem Sub.w {F F' : Hp} (s : Sub F F') : SubW F F' := fun a o h => .inl (s a o h)
theorem SubW.refl (F : Hp) : SubW F F := fun _ _ h => .inl h
theorem SubW.trans {A B C : Hp} (x : SubW A B) (y : SubW B C) : SubW A C := fun a o h => by
  rcases x a o h with h | ⟨kvs, ob, e, h⟩
  · exact y a o h
  · rcases y _ _ h with h | ⟨_, _, e', _⟩
    · exact .inr ⟨kvs, ob, e, h⟩
    · cases e'
theorem SubW.get {F F' : Hp} (s : SubW F F') {a : Addr} {o : HO} (h : F a = some o) (hn : ∀ kvs, o ≠ .dK kvs) : F' a = some o := by
  rcases s a o h with h | ⟨kvs, _, e, _⟩
  · exact h
  · exact absurd e (hn kvs)
theorem SubW.dK {F F' : Hp} (s : SubW F F') {a : Addr} {ks : List (Key × V)} (h : Rd F a (.dK ks)) : Rd F' a (.dK ks) := by
  rcases h with h | ⟨o, h⟩
  · rcases s a _ h with h | ⟨kvs, ob, e, h⟩
    · exact .inl h
    · cases e; exact .inr ⟨ob, h⟩
  · exact .inr ⟨o, s.get h (fun _ z => nomatch z)⟩
theorem SubW.sqL {F F' : Hp} (s : SubW F F') {K : PySem.W.Frag} {a : Addr} {xs : List V} (h : SqL K F a xs) : SqL K F' a xs := by
  rcases h with (h | ⟨o, h⟩) | h
  · exact .inl (.inl (s.get h (fun _ z => nomatch z)))
  · exact .inl (.inr ⟨o, s.get h (fun _ z => nomatch z)⟩)
  · exact .inr h
theorem SubW.tupAt {F F' : Hp} (s : SubW F F') {K : PySem.W.Frag} {a : Addr} {xs : List V} (h : TupAt K F a xs) : TupAt K F' a xs := by
  rcases h with ⟨o, h, e⟩ | h
  · exact .inl ⟨o, s.get h (fun _ z => nomatch z), e⟩
  · exact .inr h
structure Ext (ρ : AM) (m : Nat) (F : Hp) (ρ' : AM) (m' : Nat) (F' : Hp) : Prop where
  le : m ≤ m'
  same : ∀ n, n < m → ρ'.ob n = ρ.ob n
  samd : ∀ n, n < m → ρ'.dx n = ρ.dx n
  sub : SubW F F'
theorem Ext.refl (ρ : AM) (m : Nat) (F : Hp) : Ext ρ m F ρ m F := ⟨Nat.le_refl _, fun _ _ => rfl, fun _ _ => rfl, SubW.refl _⟩
theorem Ext.trans {ρ ρ1 ρ2 : AM} {m m1 m2 : Nat} {F F1 F2 : Hp} (a : Ext ρ m F ρ1 m1 F1) (b : Ext ρ1 m1 F1 ρ2 m2 F2) : Ext ρ m F ρ2 m2 F2 :=
  ⟨Nat.le_trans a.le b.le, fun n h => (b.same n (Nat.lt_of_lt_of_le h a.le)).trans (a.same n h), fun n h => (b.samd n (Nat.lt_of_lt_of_le h a.le)).trans (a.samd n h), a.sub.trans b.sub⟩
section
variable {G : GI} {ρ ρ' : AM} {m m' : Nat} {F F' : Hp}
mutual
theorem RD.mono (e : Ext ρ m F ρ' m' F') : ∀ {d : D} {v : V}, RD G ρ m F d v → RD G ρ' m' F' d v
  | .non, _, h => by cases h; exact .non
  | .bl b, _, h => by cases h; exact .bl b
  | .int b, _, h => by cases h; exact .int b
  | .str b, _, h => by cases h; exact .str b
  | .tup xs, _, h => by cases h with | tup a b => exact .tup (e.sub.tupAt a) (RDs.mono e b)
  | .lst xs, _, h => by cases h with | lst a b => exact .lst (e.sub.get a (fun _ z => nomatch z)) (RDs.mono e b)
  | .scr xs, _, h => by cases h with | scr a b => exact .scr (e.sub.sqL a) (RDs.mono e b)
  | .dic kvs, _, h => by cases h with | dic a b => exact .dic (e.sub.dK a) (RDk.mono e b)
  | .obj c fs, _, h => by cases h with | obj a a2 b => exact .obj (e.sub.get a (fun _ z => nomatch z)) (e.sub.get a2 (fun _ z => nomatch z)) (RDo.mono e b)
  | .fn i, _, h => by cases h; exact .fn i
  | .cl i, _, h => by cases h; exact .cl i
  | .ty i, _, h => by cases h; exact .ty i
  | .loc n, _, h => by cases h with | loc _ hn => rw [← e.same n hn]; exact .loc n (Nat.lt_of_lt_of_le hn e.le)
  | .xn c fs, _, h => by cases h with | xn0 a => exact .xn0 a | xn1 a b r => exact .xn1 a (e.sub.get b (fun _ z => nomatch z)) (RDn.mono e r)
theorem RDs.mono (e : Ext ρ m F ρ' m' F') : ∀ {d : List D} {v : List V}, RDs G ρ m F d v → RDs G ρ' m' F' d v
  | [], _, h => by cases h; exact .nil
  | d :: ds, _, h => by cases h with | cons a b => exact .cons (RD.mono e a) (RDs.mono e b)
theorem RDk.mono (e : Ext ρ m F ρ' m' F') : ∀ {d : List (Key × D)} {v : List (Key × V)}, RDk G ρ m F d v → RDk G ρ' m' F' d v
  | [], _, h => by cases h; exact .nil
  | (k, d) :: ds, _, h => by cases h with | cons a b => exact .cons (RD.mono e a) (RDk.mono e b)
theorem RDn.mono (e : Ext ρ m F ρ' m' F') : ∀ {d : List (Str × D)} {v : List (Str × V)}, RDn G ρ m F d v → RDn G ρ' m' F' d v
  | [], _, h => by cases h; exact .nil
  | (k, d) :: ds, _, h => by cases h with | cons a b => exact .cons (RD.mono e a) (RDn.mono e b)
theorem RDo.mono (e : Ext ρ m F ρ' m' F') : ∀ {d : List D} {v : List (Option V)}, RDo G ρ m F d v → RDo G ρ' m' F' d v
  | [], _, h => by cases h; exact .nil
  | d :: ds, _, h => by cases h with | cons a b => exact .cons (RD.mono e a) (RDo.mono e b)
end
end
end Lo
namespace Lo
open PySem PySem.Spec PyProof.Rows L2
inductive RDf (G : GI) (ρ : AM) (m : Nat) (F : Hp) : List (Str × D) → List (Str × V) → Prop
  | nil : RDf G ρ m F [] []
  | cons {k : Str} {d : D} {v : V} {ds : List (Str × D)} {vs : List (Str × V)} : RD G ρ m F d v → RDf G ρ m F ds vs → RDf G ρ m F ((k, d) :: ds) ((k, v) :: vs)
def RDq (G : GI) (ρ : AM) (m : Nat) (F : Hp) (fs : List (Option D)) (vs : List (Option V)) : Prop :=
  ∀ (i : Nat) (d : D), fs[i]? = some (some d) → ∃ v, vs[i]? = some (some v) ∧ RD G ρ m F d v
def isIns : O → Bool
  | .ins _ _ => true
  | _ => false
def RO (G : GI) (ρ : AM) (m : Nat) (F R H : Hp) (n : Nat) : O → Prop
  | .lst xs => ∃ vs, H (ρ.ob n) = some (.lst vs) ∧ RDs G ρ m F xs vs
  | .dic kvs => ∃ ks, H (ρ.ob n) = some (.dK ks) ∧ RDk G ρ m F kvs ks
  | .ins c fs => ∃ vs, SlX.Slt H (ρ.ob n) (G.clA c) (ρ.dx n) vs ∧ RDq G ρ m F fs vs ∧ F (ρ.dx n) = none ∧ R (ρ.dx n) = none ∧ H (ρ.dx n) ≠ none ∧ ∀ k, k < m → ρ.ob k ≠ ρ.dx n
  | .ind c fs => ∃ dx vs, H (ρ.ob n) = some (.ins (G.clA c) dx vs) ∧ RDf G ρ m F fs vs
structure Tb (T : List (Addr × Str)) (ρ : AM) (h : List O) (F R H : Hp) : Prop where
  at_ : ∀ p ∈ T, ∃ ps : Array Value, H p.1 = some (.tbl ps) ∧ TriplesOk ps.toList ∧ ∀ (pos : Pos) (cv : Value), codeAmong pos ps.toList = some cv → ∃ c, cv = .ref c ∧ F c = some (LamX.CodeO c p.2)
  nF : ∀ p ∈ T, F p.1 = none
  nR : ∀ p ∈ T, R p.1 = none
  nL : ∀ p ∈ T, ∀ n o, h[n]? = some o → ρ.ob n ≠ p.1 ∧ (isIns o = true → ρ.dx n ≠ p.1)
theorem codeO_dK {c : Addr} {q : Str} (kvs : List (Key × V)) : LamX.CodeO c q ≠ .dK kvs := fun z => by
  unfold LamX.CodeO at z
  cases z
section
variable {T : List (Addr × Str)} {ρ ρ' : AM} {h h' : List O} {F F' R R' H H' : Hp}
theorem Tb.step (t : Tb T ρ h F R H) (hF : SubW F F') (hH : ∀ p ∈ T, H' p.1 = H p.1) (f : ∀ p ∈ T, F' p.1 = none) (r : ∀ p ∈ T, R' p.1 = none) (l : ∀ p ∈ T, ∀ n o, h'[n]? = some o → ρ'.ob n ≠ p.1 ∧ (isIns o = true → ρ'.dx n ≠ p.1)) : Tb T ρ' h' F' R' H' :=
  ⟨fun p hp => by
    obtain ⟨ps, a, b, c⟩ := t.at_ p hp
    refine ⟨ps, by rw [hH p hp]; exact a, b, fun pos cv e => ?_⟩
    obtain ⟨c', e1, e2⟩ := c pos cv e
    exact ⟨c', e1, hF.get e2 codeO_dK⟩, f, r, l⟩
theorem Tb.some (t : Tb T ρ h F R H) {p : Addr × Str} (hp : p ∈ T) : H p.1 ≠ none := fun z => by
  obtain ⟨ps, a, _⟩ := t.at_ p hp
  rw [z] at a; cases a
theorem Tb.ne (t : Tb T ρ h F R H) {a : Addr} (ha : H a = none) {p : Addr × Str} (hp : p ∈ T) : p.1 ≠ a := fun z => t.some hp (by rw [z]; exact ha)
end
structure Rel (G : GI) (ρ : AM) (h : List O) (F R H : Hp) : Prop where
  fr : Sub F H
  rs : Sub R H
  fR : ∀ a o, F a = some o → R a = none
  lv : ∀ n o, h[n]? = some o → RO G ρ h.length F R H n o
  inj : ∀ i j, i < h.length → j < h.length → ρ.ob i = ρ.ob j → i = j
  dinj : ∀ i j o o', h[i]? = some o → h[j]? = some o' → isIns o = true → isIns o' = true → ρ.dx i = ρ.dx j → i = j
  lF : ∀ n, n < h.length → F (ρ.ob n) = none
  lR : ∀ n, n < h.length → R (ρ.ob n) = none
  lH : ∀ n, n < h.length → H (ρ.ob n) ≠ none
  tb : Tb G.tabs ρ h F R H
section
variable {G : GI} {ρ ρ' : AM} {m m' : Nat} {F F' R H H' : Hp}
theorem RDf.mono (e : Ext ρ m F ρ' m' F') {d : List (Str × D)} {v : List (Str × V)} (h : RDf G ρ m F d v) : RDf G ρ' m' F' d v := by
  induction h with
  | nil => exact .nil
  | cons a _ ih => exact .cons (a.mono e) ih
theorem RDq.mono (e : Ext ρ m F ρ' m' F') {d : List (Option D)} {v : List (Option V)} (h : RDq G ρ m F d v) : RDq G ρ' m' F' d v := fun i x q => by
  obtain ⟨v, a, b⟩ := h i x q
  exact ⟨v, a, b.mono e⟩
theorem slt_of {a C dx : Addr} {vs : List (Option V)} (h : SlX.Slt H a C dx vs) (ha : H' a = H a) (hd : H dx = some (.xd []) → H' dx = some (.xd [])) : SlX.Slt H' a C dx vs := by
  rcases h with ⟨h, e⟩ | ⟨h, e⟩
  · exact .inl ⟨by rw [ha]; exact h, e⟩
  · exact .inr ⟨by rw [ha]; exact h, hd e⟩
theorem RO.grow {n : Nat} {o : O} (h : RO G ρ m F R H n o) (hn : n < m) (e : Ext ρ m F ρ' m' F') (ha : H (ρ.ob n) ≠ none) (hH : ∀ b, H b ≠ none → H' b = H b) (hF : ∀ b, H b ≠ none → F' b = F b)
    (hρ : ∀ n, m ≤ n → n < m' → H (ρ'.ob n) = none) : RO G ρ' m' F' R H' n o := by
  cases o with
  | lst xs =>
    obtain ⟨vs, h1, h2⟩ := h
    exact ⟨vs, by rw [e.same n hn, hH _ ha]; exact h1, h2.mono e⟩
  | dic xs =>
    obtain ⟨vs, h1, h2⟩ := h
    exact ⟨vs, by rw [e.same n hn, hH _ ha]; exact h1, h2.mono e⟩
  | ind c fs =>
    obtain ⟨dx, vs, h1, h2⟩ := h
    exact ⟨dx, vs, by rw [e.same n hn, hH _ ha]; exact h1, h2.mono e⟩
  | ins c fs =>
    obtain ⟨vs, h1, h2, h3, h4, h5, h7⟩ := h
    have e1 := e.same n hn
    have e2 := e.samd n hn
    refine ⟨vs, ?_, h2.mono e, by rw [e2, hF _ h5]; exact h3, by rw [e2]; exact h4, by rw [e2, hH _ h5]; exact h5, fun k hk q => ?_⟩
    · rw [e1, e2]
      exact slt_of h1 (hH _ ha) (fun q => by rw [hH _ h5]; exact q)
    · rw [e2] at q
      by_cases hm : k < m
      · rw [e.same k hm] at q
        exact h7 k hm q
      · have := hρ k (by omega) hk
        rw [q] at this
        exact h5 this
theorem RO.other {n k : Nat} {o : O} {u : HO} (h : RO G ρ m F R H n o) (hx : ρ.ob n ≠ ρ.ob k) (hk : k < m) : RO G ρ m F R (upd H (ρ.ob k) u) n o := by
  cases o with
  | lst xs =>
    obtain ⟨vs, h1, h2⟩ := h
    exact ⟨vs, by rw [upd_ne hx]; exact h1, h2⟩
  | dic xs =>
    obtain ⟨vs, h1, h2⟩ := h
    exact ⟨vs, by rw [upd_ne hx]; exact h1, h2⟩
  | ind c fs =>
    obtain ⟨dx, vs, h1, h2⟩ := h
    exact ⟨dx, vs, by rw [upd_ne hx]; exact h1, h2⟩
  | ins c fs =>
    obtain ⟨vs, h1, h2, h3, h4, h5, h7⟩ := h
    have nx : ρ.dx n ≠ ρ.ob k := fun q => h7 k hk q.symm
    exact ⟨vs, slt_of h1 (upd_ne hx) (fun q => by rw [upd_ne nx]; exact q), h2, h3, h4, by rw [upd_ne nx]; exact h5, h7⟩
end
section
variable {G : GI} {ρ : AM} {h : List O} {F R H : Hp}
theorem Rel.fnone (r : Rel G ρ h F R H) {p : Addr} (hp : H p = none) : F p = none := by
  cases q : F p with
  | none => rfl
  | some o => rw [r.fr _ _ q] at hp; cases hp
theorem Rel.rnone (r : Rel G ρ h F R H) {p : Addr} (hp : H p = none) : R p = none := by
  cases q : R p with
  | none => rfl
  | some o => rw [r.rs _ _ q] at hp; cases hp
theorem sub_upd {F : Hp} {p : Addr} {o : HO} (hp : F p = none) : Sub F (upd F p o) := fun a u e => by
  rw [upd_ne (ne_of_none e hp)]; exact e
theorem sub_upd2 {F H : Hp} {p : Addr} {o : HO} (s : Sub F H) (hp : F p = none) : Sub F (upd H p o) := fun a u e => by
  rw [upd_ne (ne_of_none e hp)]; exact s _ _ e
theorem Rel.frz (r : Rel G ρ h F R H) {p : Addr} (o : HO) (hp : H p = none) : Rel G ρ h (upd F p o) R (upd H p o) ∧ Ext ρ h.length F ρ h.length (upd F p o) := by
  have fp := r.fnone hp
  have rp := r.rnone hp
  have e : Ext ρ h.length F ρ h.length (upd F p o) := ⟨Nat.le_refl _, fun _ _ => rfl, fun _ _ => rfl, (sub_upd fp).w⟩
  have ne : ∀ b, H b ≠ none → b ≠ p := fun b hb q => hb (by rw [q]; exact hp)
  refine ⟨⟨fun a u q => ?_, sub_upd2 r.rs rp, fun a u q => ?_, fun n u q => ?_, r.inj, r.dinj, fun n hn => ?_, r.lR, fun n hn => ?_, r.tb.step e.sub (fun t ht => upd_ne (r.tb.ne hp ht)) (fun t ht => by rw [upd_ne (r.tb.ne hp ht)]; exact r.tb.nF t ht) r.tb.nR r.tb.nL⟩, e⟩
  · by_cases hb : a = p
    · subst hb; rw [upd_same] at q ⊢; exact q
    · rw [upd_ne hb] at q ⊢; exact r.fr _ _ q
  · by_cases hb : a = p
    · rw [hb]; exact rp
    · rw [upd_ne hb] at q; exact r.fR _ _ q
  · have hn : n < h.length := (List.getElem?_eq_some_iff.mp q).1
    exact (r.lv n u q).grow hn e (r.lH n hn) (fun b hb => upd_ne (ne b hb)) (fun b hb => upd_ne (ne b hb)) (fun k h1 h2 => absurd h2 (by omega))
  · rw [upd_ne (ne _ (r.lH n hn))]; exact r.lF n hn
  · rw [upd_ne (ne _ (r.lH n hn))]; exact r.lH n hn
def rext (ρ : AM) (m : Nat) (p dx : Addr) : AM := ⟨fun n => if n = m then p else ρ.ob n, fun n => if n = m then dx else ρ.dx n⟩
theorem rext_at (ρ : AM) (m : Nat) (p dx : Addr) : (rext ρ m p dx).ob m = p := if_pos rfl
theorem rext_dx (ρ : AM) (m : Nat) (p dx : Addr) : (rext ρ m p dx).dx m = dx := if_pos rfl
theorem rext_lt {ρ : AM} {m n : Nat} {p dx : Addr} (h : n < m) : (rext ρ m p dx).ob n = ρ.ob n := if_neg (by omega)
theorem rext_ltd {ρ : AM} {m n : Nat} {p dx : Addr} (h : n < m) : (rext ρ m p dx).dx n = ρ.dx n := if_neg (by omega)
theorem rext_ext {ρ : AM} {m : Nat} {p dx : Addr} {F : Hp} : Ext ρ m F (rext ρ m p dx) (m + 1) F := ⟨Nat.le_succ _, fun n hn => rext_lt hn, fun n hn => rext_ltd hn, SubW.refl _⟩
theorem Rel.lock (r : Rel G ρ h F R H) {p : Addr} {ks : List (Key × V)} (hp : F p = some (.dK ks)) (ob : Obj) : Rel G ρ h (upd F p (.frz ob (.dK ks))) R (upd H p (.frz ob (.dK ks))) ∧ Ext ρ h.length F ρ h.length (upd F p (.frz ob (.dK ks))) := by
  have rp := r.fR _ _ hp
  have hp' := r.fr _ _ hp
  have e : Ext ρ h.length F ρ h.length (upd F p (.frz ob (.dK ks))) := ⟨Nat.le_refl _, fun _ _ => rfl, fun _ _ => rfl, fun a o q => by
    by_cases hb : a = p
    · subst hb; rw [hp] at q; cases q; exact .inr ⟨ks, ob, rfl, upd_same⟩
    · exact .inl (by rw [upd_ne hb]; exact q)⟩
  have lne : ∀ n, n < h.length → ρ.ob n ≠ p := fun n hn q => by have := r.lF n hn; rw [q, hp] at this; cases this
  have tne : ∀ t ∈ G.tabs, t.1 ≠ p := fun t ht q => by have := r.tb.nF t ht; rw [q, hp] at this; cases this
  refine ⟨⟨fun a u q => ?_, sub_upd2 r.rs rp, fun a u q => ?_, fun n u q => ?_, r.inj, r.dinj, fun n hn => ?_, r.lR, fun n hn => ?_, r.tb.step e.sub (fun t ht => upd_ne (tne t ht)) (fun t ht => by rw [upd_ne (tne t ht)]; exact r.tb.nF t ht) r.tb.nR r.tb.nL⟩, e⟩
  · by_cases hb : a = p
    · subst hb; rw [upd_same] at q ⊢; exact q
    · rw [upd_ne hb] at q ⊢; exact r.fr _ _ q
  · by_cases hb : a = p
    · rw [hb]; exact rp
    · rw [upd_ne hb] at q; exact r.fR _ _ q
  · have hn : n < h.length := (List.getElem?_eq_some_iff.mp q).1
    have z := r.lv n u q
    cases u with
    | lst xs =>
      obtain ⟨vs, h1, h2⟩ := z
      exact ⟨vs, by rw [upd_ne (lne n hn)]; exact h1, h2.mono e⟩
    | dic xs =>
      obtain ⟨vs, h1, h2⟩ := z
      exact ⟨vs, by rw [upd_ne (lne n hn)]; exact h1, h2.mono e⟩
    | ind c fs =>
      obtain ⟨dx, vs, h1, h2⟩ := z
      exact ⟨dx, vs, by rw [upd_ne (lne n hn)]; exact h1, h2.mono e⟩
    | ins c fs =>
      obtain ⟨vs, h1, h2, h3, h4, h5, h7⟩ := z
      have dne : ρ.dx n ≠ p := fun q => by rw [q, hp] at h3; cases h3
      exact ⟨vs, slt_of h1 (upd_ne (lne n hn)) (fun q => by rw [upd_ne dne]; exact q), h2.mono e, by rw [upd_ne dne]; exact h3, h4, by rw [upd_ne dne]; exact h5, h7⟩
  · rw [upd_ne (lne n hn)]; exact r.lF n hn
  · rw [upd_ne (lne n hn)]; exact r.lH n hn
theorem Rel.newG (r : Rel G ρ h F R H) {p dx : Addr} {o : O} {H' : Hp} (hp : H p = none) (hH : ∀ b, H b ≠ none → H' b = H b) (hp' : H' p ≠ none) (hdx : isIns o = true → H dx = none)
    (hu : RO G (rext ρ h.length p dx) (h.length + 1) F R H' h.length o) :
    Rel G (rext ρ h.length p dx) (h ++ [o]) F R H' ∧ Ext ρ h.length F (rext ρ h.length p dx) (h ++ [o]).length F := by
  have fp := r.fnone hp
  have rp := r.rnone hp
  have e : Ext ρ h.length F (rext ρ h.length p dx) (h.length + 1) F := rext_ext
  have ne : ∀ b, H b ≠ none → b ≠ p := fun b hb q => hb (by rw [q]; exact hp)
  have hl : (h ++ [o]).length = h.length + 1 := by simp
  have cs : ∀ n, n < (h ++ [o]).length → n < h.length ∨ n = h.length := fun n hn => by rw [hl] at hn; omega
  have old : ∀ n x, (h ++ [o])[n]? = some x → (n < h.length ∧ h[n]? = some x) ∨ (n = h.length ∧ x = o) := fun n x q => by
    have hn : n < (h ++ [o]).length := (List.getElem?_eq_some_iff.mp q).1
    rcases cs n hn with hn | hn
    · rw [List.getElem?_append_left hn] at q
      exact .inl ⟨hn, q⟩
    · subst hn
      rw [List.getElem?_concat_length] at q
      cases q
      exact .inr ⟨rfl, rfl⟩
  have some_of : ∀ b u, H b = some u → H b ≠ none := fun b u q z => by rw [q] at z; cases z
  have dne : ∀ i x, h[i]? = some x → isIns x = true → isIns o = true → ρ.dx i ≠ dx := fun i x q hx ho z => by
    have hi := hdx ho
    have ri := r.lv i x q
    cases x with
    | ins c fs =>
      obtain ⟨vs, _, _, _, _, h5, _⟩ := ri
      rw [z, hi] at h5
      exact h5 rfl
    | _ => cases hx
  refine ⟨⟨fun b u q => ?_, fun b u q => ?_, r.fR, fun n x q => ?_, fun i j hi hj q => ?_, fun i j x y qi qj hx hy q => ?_, fun n hn => ?_, fun n hn => ?_, fun n hn => ?_, r.tb.step (SubW.refl _) (fun t ht => hH _ (r.tb.some ht)) r.tb.nF r.tb.nR fun t ht n x q => ?_⟩, by rw [hl]; exact e⟩
  · have z := r.fr b u q
    rw [hH b (some_of b u z)]; exact z
  · have z := r.rs b u q
    rw [hH b (some_of b u z)]; exact z
  · rw [hl]
    rcases old n x q with ⟨hn, q⟩ | ⟨rfl, rfl⟩
    · exact (r.lv n x q).grow hn e (r.lH n hn) hH (fun b hb => rfl) (fun k h1 h2 => by rw [show k = h.length by omega, rext_at]; exact hp)
    · exact hu
  · rcases cs i hi with hi | hi <;> rcases cs j hj with hj | hj
    · rw [rext_lt hi, rext_lt hj] at q; exact r.inj i j hi hj q
    · subst hj; rw [rext_lt hi, rext_at] at q; exact absurd q (ne _ (r.lH i hi))
    · subst hi; rw [rext_lt hj, rext_at] at q; exact absurd q.symm (ne _ (r.lH j hj))
    · rw [hi, hj]
  · rcases old i x qi with ⟨hi, qi2⟩ | ⟨hi, ex⟩ <;> rcases old j y qj with ⟨hj, qj2⟩ | ⟨hj, ey⟩
    · rw [rext_ltd hi, rext_ltd hj] at q; exact r.dinj i j x y qi2 qj2 hx hy q
    · rw [hj, rext_ltd hi, rext_dx] at q; exact absurd q (dne i x qi2 hx (by rw [← ey]; exact hy))
    · rw [hi, rext_ltd hj, rext_dx] at q; exact absurd q.symm (dne j y qj2 hy (by rw [← ex]; exact hx))
    · rw [hi, hj]
  · rcases cs n hn with hn | hn
    · rw [rext_lt hn]; exact r.lF n hn
    · subst hn; rw [rext_at]; exact fp
  · rcases cs n hn with hn | hn
    · rw [rext_lt hn]; exact r.lR n hn
    · subst hn; rw [rext_at]; exact rp
  · rcases cs n hn with hn | hn
    · rw [rext_lt hn, hH _ (r.lH n hn)]; exact r.lH n hn
    · subst hn; rw [rext_at]; exact hp'
  · rcases old n x q with ⟨hn, q⟩ | ⟨rfl, rfl⟩
    · rw [rext_lt hn, rext_ltd hn]; exact r.tb.nL t ht n x q
    · rw [rext_at, rext_dx]
      exact ⟨fun z => r.tb.ne hp ht z.symm, fun hi z => r.tb.ne (hdx hi) ht z.symm⟩
theorem Rel.new (r : Rel G ρ h F R H) {p : Addr} {o : O} {u : HO} (hi : isIns o = false) (hp : H p = none) (hu : RO G (rext ρ h.length p 0) (h.length + 1) F R (upd H p u) h.length o) :
    Rel G (rext ρ h.length p 0) (h ++ [o]) F R (upd H p u) ∧ Ext ρ h.length F (rext ρ h.length p 0) (h ++ [o]).length F :=
  r.newG hp (fun b hb => upd_ne fun q => hb (by rw [q]; exact hp)) (by rw [upd_same]; exact fun z => nomatch z) (fun z => by rw [hi] at z; cases z) hu
theorem Rel.put (r : Rel G ρ h F R H) {n : Nat} {o : O} {u : HO} (hi : isIns o = false) (hn : n < h.length) (hu : RO G ρ h.length F R (upd H (ρ.ob n) u) n o) : Rel G ρ (h.set n o) F R (upd H (ρ.ob n) u) := by
  have hl : (h.set n o).length = h.length := List.length_set
  have old : ∀ k x, (h.set n o)[k]? = some x → (k ≠ n ∧ h[k]? = some x) ∨ (k = n ∧ x = o) := fun k x q => by
    by_cases hk : k = n
    · subst hk
      rw [List.getElem?_set_self hn] at q
      cases q
      exact .inr ⟨rfl, rfl⟩
    · rw [List.getElem?_set_ne (Ne.symm hk)] at q
      exact .inl ⟨hk, q⟩
  refine ⟨sub_upd2 r.fr (r.lF n hn), sub_upd2 r.rs (r.lR n hn), r.fR, fun k x q => ?_, by rw [hl]; exact r.inj, fun i j x y qi qj hx hy q => ?_, by rw [hl]; exact r.lF, by rw [hl]; exact r.lR, fun k hk => ?_, r.tb.step (SubW.refl _) (fun t ht => upd_ne fun z => (r.tb.nL t ht n _ (List.getElem?_eq_getElem hn)).1 z.symm) r.tb.nF r.tb.nR fun t ht k x q => ?_⟩
  · rw [hl]
    rcases old k x q with ⟨hk, q⟩ | ⟨rfl, rfl⟩
    · have hk' : k < h.length := (List.getElem?_eq_some_iff.mp q).1
      exact (r.lv k x q).other (fun z => hk (r.inj k n hk' hn z)) hn
    · exact hu
  · rcases old i x qi with ⟨_, qi⟩ | ⟨rfl, rfl⟩
    · rcases old j y qj with ⟨_, qj⟩ | ⟨rfl, rfl⟩
      · exact r.dinj i j x y qi qj hx hy q
      · rw [hi] at hy; cases hy
    · rw [hi] at hx; cases hx
  · rw [hl] at hk
    by_cases he : ρ.ob k = ρ.ob n
    · rw [he, upd_same]; exact fun z => nomatch z
    · rw [upd_ne he]; exact r.lH k hk
  · rcases old k x q with ⟨_, q⟩ | ⟨rfl, rfl⟩
    · exact r.tb.nL t ht k x q
    · exact ⟨(r.tb.nL t ht k _ (List.getElem?_eq_getElem hn)).1, fun z => by rw [hi] at z; cases z⟩
end
inductive Res (α : Type) where
  | ok (a : α) (h : List O)
  | ex (c : Nat) (fs : List (Str × D)) (h : List O)
  | no
def Res.bind {α β : Type} : Res α → (α → List O → Res β) → Res β
  | .ok a h, k => k a h
  | .ex c fs h, _ => .ex c fs h
  | .no, _ => .no
abbrev Sl := List (Option D)
abbrev Ac := Sl → List O → Res D
abbrev AcL := Sl → List O → Res (List D)
abbrev AcB := Sl → List O → Res Bool
def RX (G : GI) (ρ : AM) (m : Nat) (F : Hp) (c : Nat) (fs : List (Str × D)) (cls : Value) (d : Option Addr) : Prop :=
  cls = .ref (G.clA c) ∧ match fs with
    | [] => d = none
    | fs => ∃ (b : Addr) (vs : List (Str × V)), d = some b ∧ F b = some (.xd vs) ∧ RDf G ρ m F fs vs
structure SRel (G : GI) (ρ : AM) (m : Nat) (F : Hp) (s : Sl) (σ : L2.St) : Prop where
  len : s.length = σ.length
  val : ∀ (i : Nat) (d : D), s[i]? = some (some d) → ∃ v, σ[i]? = some (some v) ∧ RD G ρ m F d v
section
variable {G : GI} {ρ ρ' : AM} {m m' : Nat} {F F' : Hp}
theorem SRel.mono {s : Sl} {σ : L2.St} (e : Ext ρ m F ρ' m' F') (h : SRel G ρ m F s σ) : SRel G ρ' m' F' s σ :=
  ⟨h.len, fun i d q => let ⟨v, a, b⟩ := h.val i d q; ⟨v, a, b.mono e⟩⟩
theorem SRel.set {s : Sl} {σ : L2.St} {i : Nat} {d : D} {v : V} (h : SRel G ρ m F s σ) (r : RD G ρ m F d v) : SRel G ρ m F (s.set i (some d)) (σ.set i (some v)) := by
  refine ⟨by rw [List.length_set, List.length_set]; exact h.len, fun j x q => ?_⟩
  by_cases hj : i = j
  · subst hj
    by_cases hi : i < s.length
    · rw [List.getElem?_set_self hi] at q
      cases q
      exact ⟨v, List.getElem?_set_self (by rw [← h.len]; exact hi), r⟩
    · rw [List.getElem?_eq_none (by rw [List.length_set]; omega)] at q
      cases q
  · rw [List.getElem?_set_ne hj] at q
    rw [List.getElem?_set_ne hj]
    exact h.val j x q
end
def Wp {α β : Type} (G : GI) (L : (ρ : AM) → (m : Nat) → (F : Hp) → α → β → Prop) (W : WX) (R : Hp) (ρ : AM) (m : Nat) (F : Hp) (r : Res α) (σ : L2.St) (Q : β → Hp → Prop) : Prop :=
  match r with
  | .ok d h' => ∀ ρ' F' v H', Ext ρ m F ρ' h'.length F' → Rel G ρ' h' F' R H' → L ρ' h'.length F' d v → Q v H'
  | .ex c fs h' => ∀ ρ' F' cls dd H', Ext ρ m F ρ' h'.length F' → Rel G ρ' h' F' R H' → RX G ρ' h'.length F' c fs cls dd → W cls dd σ H'
  | .no => False
section
variable {α β : Type} {G : GI} {L : (ρ : AM) → (m : Nat) → (F : Hp) → α → β → Prop} {W : WX} {R : Hp} {ρ ρ1 : AM} {m m1 : Nat} {F F1 : Hp} {r : Res α} {σ : L2.St} {Q Q' : β → Hp → Prop}
theorem Wp.rebase (e : Ext ρ m F ρ1 m1 F1) (h : Wp G L W R ρ m F r σ Q) : Wp G L W R ρ1 m1 F1 r σ Q := by
  cases r with
  | ok d h' => exact fun ρ' F' v H' x => h ρ' F' v H' (e.trans x)
  | ex c fs h' => exact fun ρ' F' cls dd H' x => h ρ' F' cls dd H' (e.trans x)
  | no => exact h
theorem Wp.imp (h : Wp G L W R ρ m F r σ Q) (q : ∀ v H, Q v H → Q' v H) : Wp G L W R ρ m F r σ Q' := by
  cases r with
  | ok d h' => exact fun ρ' F' v H' a b c => q _ _ (h ρ' F' v H' a b c)
  | ex c fs h' => exact h
  | no => exact h
end
def rdG {α β : Type} (G : GI) (L : (ρ : AM) → (m : Nat) → (F : Hp) → α → β → Prop) (W : WX) (a : Sl → List O → Res α) : L2.St → Hp → (β → Hp → Prop) → Prop := fun σ H Q =>
  ∃ ρ s h F R, Rel G ρ h F R H ∧ SRel G ρ h.length F s σ ∧ Wp G L W R ρ h.length F (a s h) σ Q
abbrev LD (G : GI) : (ρ : AM) → (m : Nat) → (F : Hp) → D → V → Prop := fun ρ m F => RD G ρ m F
abbrev LDs (G : GI) : (ρ : AM) → (m : Nat) → (F : Hp) → List D → List V → Prop := fun ρ m F => RDs G ρ m F
abbrev LB : (ρ : AM) → (m : Nat) → (F : Hp) → Bool → Bool → Prop := fun _ _ _ a b => a = b
abbrev rd (G : GI) (W : WX) (a : Ac) : TE := rdG G (LD G) W a
abbrev rdA (G : GI) (W : WX) (a : AcL) : TA := rdG G (LDs G) W a
abbrev rdB (G : GI) (W : WX) (a : AcB) : TT := rdG G LB W a
theorem rd_bind {α β α' β' : Type} {G : GI} {L : (ρ : AM) → (m : Nat) → (F : Hp) → α → β → Prop} {L' : (ρ : AM) → (m : Nat) → (F : Hp) → α' → β' → Prop} {W : WX} {a : Sl → List O → Res α} {k : Sl → α → List O → Res α'}
    {σ : L2.St} {H : Hp} {Q : β' → Hp → Prop} {N : β → Hp → Prop} (h : rdG G L' W (fun s h => (a s h).bind (k s)) σ H Q)
    (hk : ∀ ρ s h F R d v H, Rel G ρ h F R H → SRel G ρ h.length F s σ → L ρ h.length F d v → Wp G L' W R ρ h.length F (k s d h) σ Q → N v H) : rdG G L W a σ H N := by
  obtain ⟨ρ, s, h0, F, R, r, sr, wp⟩ := h
  refine ⟨ρ, s, h0, F, R, r, sr, ?_⟩
  have wp : Wp G L' W R ρ h0.length F ((a s h0).bind (k s)) σ Q := wp
  cases e : a s h0 with
  | ok d h1 =>
    rw [e] at wp
    intro ρ1 F1 v H1 x r1 q
    exact hk ρ1 s h1 F1 R d v H1 r1 (sr.mono x) q (Wp.rebase x wp)
  | ex c fs h1 => rw [e] at wp; exact wp
  | no => rw [e] at wp; exact wp
theorem _root_.L2.PE.weakL {X : Cx} {e : Expr} {t t' : TE} (h : PE X e t) (i : ∀ σ H Q, t' σ H Q → t σ H Q) : PE X e t' := ⟨fun pins s σ H Q I q => h.run pins s σ H Q I (i σ H Q q)⟩
theorem _root_.L2.PT.weakL {X : Cx} {e : Expr} {t t' : TT} (h : PT X e t) (i : ∀ σ H Q, t' σ H Q → t σ H Q) : PT X e t' := ⟨fun pins s σ H Q I q => h.run pins s σ H Q I (i σ H Q q)⟩
theorem _root_.L2.PA.weakL {X : Cx} {e : List Expr} {t t' : TA} (h : PA X e t) (i : ∀ σ H Q, t' σ H Q → t σ H Q) : PA X e t' := ⟨fun pos pins s σ H Q I q => h.run pos pins s σ H Q I (i σ H Q q)⟩
theorem _root_.L2.PS.weakL {X : Cx} {e : Stmt} {t t' : TS} (h : PS X e t) (i : ∀ D σ H, t' D σ H → t D σ H) : PS X e t' := ⟨fun pins s σ H Q I q => h.run pins s σ H Q I (i Q σ H q)⟩
theorem _root_.L2.PSs.weakL {X : Cx} {e : List Stmt} {t t' : TS} (h : PSs X e t) (i : ∀ D σ H, t' D σ H → t D σ H) : PSs X e t' := ⟨fun pins s σ H Q I q => h.run pins s σ H Q I (i Q σ H q)⟩
theorem _root_.L2.PG.weakL {X : Cx} {e : Expr} {t t' : TG} (h : PG X e t) (i : ∀ v σ H Q, t' v σ H Q → t v σ H Q) : PG X e t' := ⟨fun pins s σ H v u Q I r q => h.run pins s σ H v u Q I r (i v σ H Q q)⟩
end Lo
namespace Lo
open PySem PySem.Spec PyProof.Rows L2
section
variable {α β α' β' : Type} {G : GI} {L : (ρ : AM) → (m : Nat) → (F : Hp) → α → β → Prop} {L' : (ρ : AM) → (m : Nat) → (F : Hp) → α' → β' → Prop} {W : WX}
theorem step {ρ : AM} {h : List O} {F R H : Hp} {s : Sl} {σ : L2.St} {a : Sl → List O → Res α} {k : α → List O → Res α'} {Q : β' → Hp → Prop} {N : β → Hp → Prop}
    (r : Rel G ρ h F R H) (sr : SRel G ρ h.length F s σ) (wp : Wp G L' W R ρ h.length F ((a s h).bind k) σ Q)
    (hk : ∀ ρ' h' F' d v H', Ext ρ h.length F ρ' h'.length F' → Rel G ρ' h' F' R H' → L ρ' h'.length F' d v → Wp G L' W R ρ' h'.length F' (k d h') σ Q → N v H') : rdG G L W a σ H N := by
  refine ⟨ρ, s, h, F, R, r, sr, ?_⟩
  cases e : a s h with
  | ok d h1 =>
    rw [e] at wp
    intro ρ1 F1 v H1 x r1 q
    exact hk ρ1 h1 F1 d v H1 x r1 q (Wp.rebase x wp)
  | ex c fs h1 => rw [e] at wp; exact wp
  | no => rw [e] at wp; exact wp
end
def pd (h : List O) : Nat → D → Option PyData
  | 0, _ => none
  | _ + 1, .non => some .none
  | _ + 1, .bl b => some (.bool b)
  | _ + 1, .int i => some (.int i)
  | _ + 1, .str x => some (.str x)
  | n + 1, .tup xs => (xs.mapM (pd h n)).map .tuple
  | n + 1, .lst xs => (xs.mapM (pd h n)).map .list
  | n + 1, .scr xs => (xs.mapM (pd h n)).map .list
  | n + 1, .loc k => match h[k]? with
    | some (.lst xs) => (xs.mapM (pd h n)).map .list
    | _ => none
  | _ + 1, _ => none
theorem dpAll_of {K : PySem.W.Frag} {G : GI} {ρ : AM} {m : Nat} {F H : Hp} {f : D → Option PyData} (ih : ∀ d v p, f d = some p → RD G ρ m F d v → Dp K H v p) :
    ∀ {xs : List D} {vs : List V} {ps : List PyData}, xs.mapM f = some ps → RDs G ρ m F xs vs → DpAll K H vs ps
  | [], _, ps, e, r => by
    cases r
    simp at e
    subst e
    exact .nil
  | d :: ds, _, ps, e, r => by
    cases r with
    | cons a b =>
      rw [List.mapM_cons] at e
      cases e1 : f d with
      | none => rw [e1] at e; simp at e
      | some p =>
        rw [e1] at e
        cases e2 : ds.mapM f with
        | none => rw [e2] at e; simp at e
        | some qs =>
          rw [e2] at e
          simp at e
          subst e
          exact .cons (ih _ _ _ e1 a) (dpAll_of ih e2 b)
theorem dp_of {G : GI} {ρ : AM} {h : List O} {F R H : Hp} (r : Rel G ρ h F R H) : ∀ (n : Nat) (d : D) (v : V) (p : PyData), pd h n d = some p → RD G ρ h.length F d v → Dp G.K H v p
  | 0, d, v, p, e, q => by simp [pd] at e
  | n + 1, .non, v, p, e, q => by cases q; simp [pd] at e; subst e; exact .non
  | n + 1, .bl b, v, p, e, q => by cases q; simp [pd] at e; subst e; exact .bl b
  | n + 1, .int b, v, p, e, q => by cases q; simp [pd] at e; subst e; exact .int b
  | n + 1, .str b, v, p, e, q => by cases q; simp [pd] at e; subst e; exact .str b
  | n + 1, .tup xs, v, p, e, q => by
    cases q with
    | tup a b =>
      simp only [pd] at e
      obtain ⟨ps, e1, e2⟩ := Option.map_eq_some_iff.mp e
      subst e2
      exact .tup (r.fr.tupAt a).sq (dpAll_of (dp_of r n) e1 b)
  | n + 1, .lst xs, v, p, e, q => by
    cases q with
    | lst a b =>
      simp only [pd] at e
      obtain ⟨ps, e1, e2⟩ := Option.map_eq_some_iff.mp e
      subst e2
      exact .lst (SqL.of (r.fr _ _ a)) (dpAll_of (dp_of r n) e1 b)
  | n + 1, .scr xs, v, p, e, q => by
    cases q with
    | scr a b =>
      simp only [pd] at e
      obtain ⟨ps, e1, e2⟩ := Option.map_eq_some_iff.mp e
      subst e2
      exact .lst (r.fr.sqL a) (dpAll_of (dp_of r n) e1 b)
  | n + 1, .loc k, v, p, e, q => by
    cases q with
    | loc _ hk =>
      simp only [pd] at e
      cases e0 : h[k]? with
      | none => rw [e0] at e; simp at e
      | some o =>
        rw [e0] at e
        cases o with
        | lst xs =>
          simp only at e
          obtain ⟨ps, e1, e2⟩ := Option.map_eq_some_iff.mp e
          subst e2
          obtain ⟨vs, h1, h2⟩ := r.lv k _ e0
          exact .lst (SqL.of h1) (dpAll_of (dp_of r n) e1 h2)
        | dic _ => simp at e
        | ins _ _ => simp at e
        | ind _ _ => simp at e
  | n + 1, .dic _, v, p, e, q => by simp [pd] at e
  | n + 1, .obj _ _, v, p, e, q => by simp [pd] at e
  | n + 1, .fn _, v, p, e, q => by simp [pd] at e
  | n + 1, .cl _, v, p, e, q => by simp [pd] at e
  | n + 1, .ty _, v, p, e, q => by simp [pd] at e
  | n + 1, .xn _ _, v, p, e, q => by simp [pd] at e
def eqFuel : Nat := 40
def eqD (h : List O) (d e : D) : Option Bool :=
  match pd h eqFuel d, pd h eqFuel e with
  | some p, some q => if SeqAt.shaped p = true ∧ SeqAt.shaped q = true then some (PyData.eqv p q) else none
  | _, _ => none
def lstOf (h : List O) : D → Option (List D)
  | .lst xs => some xs
  | .scr xs => some xs
  | .loc n => match h[n]? with
    | some (.lst xs) => some xs
    | _ => none
  | _ => none
def seqOf (h : List O) : D → Option (List D)
  | .tup xs => some xs
  | d => lstOf h d
theorem lst_sq {G : GI} {ρ : AM} {h : List O} {F R H : Hp} (r : Rel G ρ h F R H) {d : D} {v : V} {xs : List D} (e : lstOf h d = some xs) (q : RD G ρ h.length F d v) :
    ∃ a vs, v = .ref a ∧ SqL G.K H a vs ∧ RDs G ρ h.length F xs vs := by
  cases d with
  | lst ys => cases q with | lst a b => simp [lstOf] at e; subst e; exact ⟨_, _, rfl, SqL.of (r.fr _ _ a), b⟩
  | scr ys => cases q with | scr a b => simp [lstOf] at e; subst e; exact ⟨_, _, rfl, r.fr.sqL a, b⟩
  | loc n =>
    cases q with
    | loc _ hn =>
      simp only [lstOf] at e
      cases e0 : h[n]? with
      | none => rw [e0] at e; simp at e
      | some o =>
        rw [e0] at e
        cases o with
        | lst ys =>
          simp at e
          subst e
          obtain ⟨vs, h1, h2⟩ := r.lv n _ e0
          exact ⟨_, vs, rfl, SqL.of h1, h2⟩
        | dic _ => simp at e
        | ins _ _ => simp at e
        | ind _ _ => simp at e
  | _ => simp [lstOf] at e
theorem seq_sq {G : GI} {ρ : AM} {h : List O} {F R H : Hp} (r : Rel G ρ h F R H) {d : D} {v : V} {xs : List D} (e : seqOf h d = some xs) (q : RD G ρ h.length F d v) :
    ∃ a vs, v = .ref a ∧ (SqL G.K H a vs ∨ SqT G.K H a vs) ∧ RDs G ρ h.length F xs vs := by
  cases d with
  | tup ys => cases q with | tup a b => simp [seqOf] at e; subst e; exact ⟨_, _, rfl, .inr (r.fr.tupAt a).sq, b⟩
  | _ =>
    obtain ⟨a, vs, h1, h2, h3⟩ := lst_sq r (by simpa only [seqOf] using e) q
    exact ⟨a, vs, h1, .inl h2, h3⟩
abbrev W0 : WX := fun _ _ _ _ => False
def Res.of {α : Type} : Option (α × List O) → Res α
  | some (a, h) => .ok a h
  | none => .no
abbrev P1 := D → List O → Option (D × List O)
abbrev P2 := D → D → List O → Option (D × List O)
abbrev PN := List D → List O → Option (D × List O)
abbrev P1N := D → List D → List O → Option (D × List O)
def rop (G : GI) (f : P2) : R2 := fun x y H Q => ∃ ρ h F R d e, Rel G ρ h F R H ∧ RD G ρ h.length F d x ∧ RD G ρ h.length F e y ∧ Wp G (LD G) W0 R ρ h.length F (Res.of (f d e h)) [] Q
def run1 (G : GI) (f : P1) : V → Hp → VK → Prop := fun x H Q => ∃ ρ h F R d, Rel G ρ h F R H ∧ RD G ρ h.length F d x ∧ Wp G (LD G) W0 R ρ h.length F (Res.of (f d h)) [] Q
def runN (G : GI) (f : PN) : List V → Hp → VK → Prop := fun xs H Q => ∃ ρ h F R ds, Rel G ρ h F R H ∧ RDs G ρ h.length F ds xs ∧ Wp G (LD G) W0 R ρ h.length F (Res.of (f ds h)) [] Q
def run1N (G : GI) (f : P1N) : V → List V → Hp → VK → Prop := fun x xs H Q => ∃ ρ h F R d ds, Rel G ρ h F R H ∧ RD G ρ h.length F d x ∧ RDs G ρ h.length F ds xs ∧ Wp G (LD G) W0 R ρ h.length F (Res.of (f d ds h)) [] Q
theorem wp_val {G : GI} {ρ : AM} {h : List O} {F R H : Hp} {d : D} {v : V} {Q : VK} {σ : L2.St} {W : WX} (r : Rel G ρ h F R H) (wp : Wp G (LD G) W R ρ h.length F (.ok d h) σ Q) (q : RD G ρ h.length F d v) : Q v H :=
  wp ρ F v H (Ext.refl _ _ _) r q
theorem wp_frz {G : GI} {ρ : AM} {h : List O} {F R H : Hp} {d : D} {Q : VK} {σ : L2.St} {W : WX} {o : HO} {p : Addr} (r : Rel G ρ h F R H) (wp : Wp G (LD G) W R ρ h.length F (.ok d h) σ Q) (hp : H p = none)
    (q : ∀ F', Ext ρ h.length F ρ h.length F' → F' p = some o → RD G ρ h.length F' d (.ref p)) : Q (.ref p) (upd H p o) := by
  obtain ⟨r', e⟩ := r.frz o hp
  exact wp ρ _ _ _ e r' (q _ e upd_same)
theorem wp_new {G : GI} {ρ : AM} {h : List O} {F R H : Hp} {Q : VK} {σ : L2.St} {W : WX} {o : O} {u : HO} {p : Addr} (hi : isIns o = false) (r : Rel G ρ h F R H) (wp : Wp G (LD G) W R ρ h.length F (.ok (.loc h.length) (h ++ [o])) σ Q) (hp : H p = none)
    (hu : ∀ ρ' m', Ext ρ h.length F ρ' m' F → ρ'.ob h.length = p → RO G ρ' m' F R (upd H p u) h.length o) : Q (.ref p) (upd H p u) := by
  obtain ⟨r', e'⟩ := r.new (o := o) hi hp (hu _ _ rext_ext (rext_at _ _ _ _))
  refine wp _ _ _ _ e' r' ?_
  have := RD.loc (G := G) (ρ := rext ρ h.length p 0) (m := (h ++ [o]).length) (F := F) h.length (by simp)
  rw [rext_at] at this
  exact this
theorem ro_lst {G : GI} {ρ ρ' : AM} {m m' n : Nat} {F R H : Hp} {p : Addr} {xs : List D} {vs : List V} (q : RDs G ρ m F xs vs) (e : Ext ρ m F ρ' m' F) (hn : ρ'.ob n = p) : RO G ρ' m' F R (upd H p (.lst vs)) n (.lst xs) :=
  ⟨vs, by rw [hn]; exact upd_same, q.mono e⟩
theorem RDs.append {G : GI} {ρ : AM} {m : Nat} {F : Hp} : ∀ {xs ys : List D} {us vs : List V}, RDs G ρ m F xs us → RDs G ρ m F ys vs → RDs G ρ m F (xs ++ ys) (us ++ vs)
  | [], _, _, _, h, g => by cases h; exact g
  | _ :: _, _, _, _, h, g => by cases h with | cons a b => exact .cons a (b.append g)
theorem RDs.length {G : GI} {ρ : AM} {m : Nat} {F : Hp} : ∀ {xs : List D} {us : List V}, RDs G ρ m F xs us → xs.length = us.length
  | [], _, h => by cases h; rfl
  | _ :: _, _, h => by cases h with | cons a b => simp [b.length]
theorem RDs.drop {G : GI} {ρ : AM} {m : Nat} {F : Hp} : ∀ (n : Nat) {xs : List D} {us : List V}, RDs G ρ m F xs us → RDs G ρ m F (xs.drop n) (us.drop n)
  | 0, _, _, h => h
  | _ + 1, [], _, h => by cases h; exact .nil
  | n + 1, _ :: _, _, h => by cases h with | cons a b => exact b.drop n
theorem RDs.take {G : GI} {ρ : AM} {m : Nat} {F : Hp} : ∀ (n : Nat) {xs : List D} {us : List V}, RDs G ρ m F xs us → RDs G ρ m F (xs.take n) (us.take n)
  | 0, _, _, h => .nil
  | _ + 1, [], _, h => by cases h; exact .nil
  | n + 1, _ :: _, _, h => by cases h with | cons a b => exact .cons a (b.take n)
theorem RDs.get {G : GI} {ρ : AM} {m : Nat} {F : Hp} : ∀ {xs : List D} {us : List V} {i : Nat} {d : D}, RDs G ρ m F xs us → xs[i]? = some d → ∃ v, us[i]? = some v ∧ RD G ρ m F d v
  | [], _, i, d, h, e => by simp at e
  | x :: xs, _, 0, d, h, e => by cases h with | cons a b => simp at e; subst e; exact ⟨_, rfl, a⟩
  | x :: xs, _, i + 1, d, h, e => by cases h with | cons a b => simp at e; obtain ⟨v, h1, h2⟩ := b.get e; exact ⟨v, by simpa using h1, h2⟩
theorem RDs.set {G : GI} {ρ : AM} {m : Nat} {F : Hp} {d : D} {v : V} (r : RD G ρ m F d v) : ∀ (i : Nat) {xs : List D} {us : List V}, RDs G ρ m F xs us → RDs G ρ m F (xs.set i d) (us.set i v)
  | _, [], _, h => by cases h; exact .nil
  | 0, _ :: _, _, h => by cases h with | cons a b => exact .cons r b
  | i + 1, _ :: _, _, h => by cases h with | cons a b => exact .cons a (b.set r i)
theorem RDs.eraseIdx {G : GI} {ρ : AM} {m : Nat} {F : Hp} : ∀ (i : Nat) {xs : List D} {us : List V}, RDs G ρ m F xs us → RDs G ρ m F (xs.eraseIdx i) (us.eraseIdx i)
  | _, [], _, h => by cases h; exact .nil
  | 0, _ :: _, _, h => by cases h with | cons a b => exact b
  | i + 1, _ :: _, _, h => by cases h with | cons a b => exact .cons a (b.eraseIdx i)
def bD (b : Option Bool) (h : List O) : Option (D × List O) := b.map fun b => (D.bl b, h)
def eqP : P2 := fun d e h => bD (eqD h d e) h
def neP : P2 := fun d e h => bD ((eqD h d e).map not) h
section
variable {X : Cx} {G : GI}
theorem eqD_dp {ρ : AM} {h : List O} {F R H : Hp} {d e : D} {x y : V} {b : Bool} (r : Rel G ρ h F R H) (hb : eqD h d e = some b) (q1 : RD G ρ h.length F d x) (q2 : RD G ρ h.length F e y) :
    ∃ p q, Dp G.K H x p ∧ Dp G.K H y q ∧ SeqAt.shaped p = true ∧ SeqAt.shaped q = true ∧ b = PyData.eqv p q := by
  unfold eqD at hb
  cases e1 : pd h eqFuel d with
  | none => rw [e1] at hb; simp at hb
  | some p =>
    cases e2 : pd h eqFuel e with
    | none => rw [e1, e2] at hb; simp at hb
    | some q =>
      rw [e1, e2] at hb
      simp only at hb
      split at hb
      · rename_i hs
        exact ⟨p, q, dp_of r _ _ _ _ e1 q1, dp_of r _ _ _ _ e2 q2, hs.1, hs.2, (Option.some.inj hb).symm⟩
      · cases hb
theorem or_eq (hK : X.K = G.K) (hu : X.A.units + 65 < cLine) : OpR X (compareOp .Eq) (rop G eqP) := by
  intro pins s σ H x y v u Q I rx ry h
  obtain ⟨ρ, h0, F, R, d, e, r, q1, q2, wp⟩ := h
  cases hb : eqD h0 d e with
  | none => simp [eqP, hb, bD, Res.of, Wp] at wp
  | some b =>
    simp only [eqP, hb, bD, Res.of, Option.map_some] at wp
    obtain ⟨p, q, d1, d2, s1, s2, e3⟩ := eqD_dp r hb q1 q2
    refine op_eqD (by omega) pins s σ H x y v u Q I rx ry ⟨p, q, by rw [hK]; exact d1, by rw [hK]; exact d2, s1, s2, ?_⟩
    rw [← e3]
    exact wp_val r wp (.bl b)
theorem or_ne (hK : X.K = G.K) (hu : X.A.units + 65 < cLine) : OpR X (compareOp .NotEq) (rop G neP) := by
  intro pins s σ H x y v u Q I rx ry h
  obtain ⟨ρ, h0, F, R, d, e, r, q1, q2, wp⟩ := h
  cases hb : eqD h0 d e with
  | none => simp [neP, hb, bD, Res.of, Wp] at wp
  | some b =>
    simp only [neP, hb, bD, Res.of, Option.map_some] at wp
    obtain ⟨p, q, d1, d2, s1, s2, e3⟩ := eqD_dp r hb q1 q2
    refine op_neD (by omega) pins s σ H x y v u Q I rx ry ⟨p, q, by rw [hK]; exact d1, by rw [hK]; exact d2, s1, s2, ?_⟩
    rw [← e3]
    exact wp_val r wp (.bl _)
end
end Lo
namespace Lo
open PySem PySem.Spec PyProof.Rows L2
def keyD : D → Option Key
  | .int i => some (.inl i)
  | .str x => some (.inr x)
  | _ => none
def dK : Key → D
  | .inl i => .int i
  | .inr x => .str x
def dicOf (h : List O) : D → Option (List (Key × D))
  | .dic kvs => some kvs
  | .loc n => match h[n]? with
    | some (.dic kvs) => some kvs
    | _ => none
  | _ => none
def lookK (kvs : List (Key × D)) (k : Key) : Option D := (kvs.find? fun kv => decide (kv.1 = k)).map (·.2)
def putD (kvs : List (Key × D)) (k : Key) (v : D) : List (Key × D) :=
  if (kvs.any fun kv => decide (kv.1 = k)) = true then kvs.map (fun kv => if kv.1 = k then (kv.1, v) else kv) else kvs ++ [(k, v)]
section
variable {G : GI} {ρ : AM} {m : Nat} {F : Hp}
theorem keyD_rd {d : D} {k : Key} {v : V} (e : keyD d = some k) (q : RD G ρ m F d v) : v = kV k := by
  cases d <;> simp [keyD] at e
  · subst e; cases q; rfl
  · subst e; cases q; rfl
theorem dK_rd (k : Key) : RD G ρ m F (dK k) (kV k) := by
  cases k
  · exact .int _
  · exact .str _
theorem RDk.look (k : Key) : ∀ {kvs : List (Key × D)} {ks : List (Key × V)}, RDk G ρ m F kvs ks → (lookK kvs k = none ∧ valV ks k = none) ∨ ∃ d v, lookK kvs k = some d ∧ valV ks k = some v ∧ RD G ρ m F d v
  | [], _, h => by cases h; exact .inl ⟨rfl, rfl⟩
  | (k', d) :: r, _, h => by
    cases h with
    | cons a b =>
      by_cases e : k' = k
      · exact .inr ⟨d, _, by simp [lookK, List.find?_cons, e], valV_pos e, a⟩
      · have e1 : lookK ((k', d) :: r) k = lookK r k := by simp [lookK, List.find?_cons, e]
        rw [e1, valV_neg e]
        exact b.look k
theorem RDk.any (k : Key) : ∀ {kvs : List (Key × D)} {ks : List (Key × V)}, RDk G ρ m F kvs ks → (kvs.any fun kv => decide (kv.1 = k)) = (ks.any fun kv => decide (kv.1 = k))
  | [], _, h => by cases h; rfl
  | (k', d) :: r, _, h => by
    cases h with
    | cons a b => simp only [List.any_cons, b.any k]
theorem RDk.mapPut {k : Key} {d : D} {v : V} (q : RD G ρ m F d v) : ∀ {kvs : List (Key × D)} {ks : List (Key × V)}, RDk G ρ m F kvs ks →
    RDk G ρ m F (kvs.map (fun kv => if kv.1 = k then (kv.1, d) else kv)) (ks.map (fun kv => if kv.1 = k then (kv.1, v) else kv))
  | [], _, h => by cases h; exact .nil
  | (k', d') :: r, _, h => by
    cases h with
    | cons a b =>
      simp only [List.map_cons]
      by_cases e : k' = k
      · rw [if_pos e, if_pos e]; exact .cons q (b.mapPut q)
      · rw [if_neg e, if_neg e]; exact .cons a (b.mapPut q)
theorem RDk.snoc {k : Key} {d : D} {v : V} (q : RD G ρ m F d v) : ∀ {kvs : List (Key × D)} {ks : List (Key × V)}, RDk G ρ m F kvs ks → RDk G ρ m F (kvs ++ [(k, d)]) (ks ++ [(k, v)])
  | [], _, h => by cases h; exact .cons q .nil
  | (k', d') :: r, _, h => by cases h with | cons a b => exact .cons a (b.snoc q)
theorem RDk.put {k : Key} {d : D} {v : V} {kvs : List (Key × D)} {ks : List (Key × V)} (h : RDk G ρ m F kvs ks) (q : RD G ρ m F d v) : RDk G ρ m F (putD kvs k d) (putK ks k v) := by
  unfold putD putK
  rw [h.any k]
  split
  · exact h.mapPut q
  · exact h.snoc q
theorem RDk.length : ∀ {kvs : List (Key × D)} {ks : List (Key × V)}, RDk G ρ m F kvs ks → kvs.length = ks.length
  | [], _, h => by cases h; rfl
  | (k', d') :: r, _, h => by cases h with | cons a b => simp [b.length]
theorem RDk.keys : ∀ {kvs : List (Key × D)} {ks : List (Key × V)}, RDk G ρ m F kvs ks → kvs.map (·.1) = ks.map (·.1)
  | [], _, h => by cases h; rfl
  | (k', d') :: r, _, h => by cases h with | cons a b => simp [b.keys]
end
theorem dic_rd {G : GI} {ρ : AM} {h : List O} {F R H : Hp} (r : Rel G ρ h F R H) {d : D} {v : V} {kvs : List (Key × D)} (e : dicOf h d = some kvs) (q : RD G ρ h.length F d v) :
    ∃ a ks, v = .ref a ∧ Rd H a (.dK ks) ∧ RDk G ρ h.length F kvs ks := by
  cases d with
  | dic ys => cases q with | dic a b => simp [dicOf] at e; subst e; exact ⟨_, _, rfl, r.fr.rd a, b⟩
  | loc n =>
    cases q with
    | loc _ hn =>
      simp only [dicOf] at e
      cases e0 : h[n]? with
      | none => rw [e0] at e; simp at e
      | some o =>
        rw [e0] at e
        cases o with
        | dic ys =>
          simp at e
          subst e
          obtain ⟨vs, h1, h2⟩ := r.lv n _ e0
          exact ⟨_, vs, rfl, .inl h1, h2⟩
        | lst _ => simp at e
        | ins _ _ => simp at e
        | ind _ _ => simp at e
  | _ => simp [dicOf] at e
def strIn (x z : Str) : Bool := match x.cps.toList with
  | [c] => decide (c ∈ z.cps.toList)
  | _ => !(Builtin.Str.occurrences z x 0 z.length 1).isEmpty
def inSeq (h : List O) (d e : D) : Option Bool :=
  match pd h eqFuel d, pd h eqFuel e with
  | some p, some (.list ps) => if SeqAt.shaped p = true ∧ SeqAt.shaped (.list ps) = true then some (ps.any fun z => PyData.eqv z p) else none
  | some p, some (.tuple ps) => if SeqAt.shaped p = true ∧ SeqAt.shaped (.tuple ps) = true then some (ps.any fun z => PyData.eqv z p) else none
  | _, _ => none
def inD (h : List O) (d e : D) : Option Bool :=
  match e with
  | .str z => match d with
    | .str x => some (strIn x z)
    | _ => none
  | _ => match dicOf h e with
    | some kvs => (keyD d).map fun k => (lookK kvs k).isSome
    | none => inSeq h d e
def inP : P2 := fun d e h => bD (inD h d e) h
def notInP : P2 := fun d e h => bD ((inD h d e).map not) h
section
variable {X : Cx} {G : GI}
theorem one_sign {x : Str} {c : Nat} (e : x.cps.toList = [c]) : x = ⟨#[c]⟩ := by
  obtain ⟨a⟩ := x
  congr 1
  exact Array.toList_inj.mp e
theorem in_any (hK : X.K = G.K) (hu : X.A.units + 65 < cLine) {ρ : AM} {h : List O} {F R H : Hp} {d e : D} {x y : V} {b : Bool} (r : Rel G ρ h F R H) (hb : inD h d e = some b) (q1 : RD G ρ h.length F d x) (q2 : RD G ρ h.length F e y)
    {pins : List (Addr × Obj)} {s : Shared} {σ : L2.St} {v u : Value} (I : Inv X pins σ H s) (rx : RelV x v) (ry : RelV y u) :
    (∀ (Q : VK), Q (.bl b) H → wpAny (model X.prog X.w) X.A (compareOp .In v u) (EP X pins σ Q) X.xe s) ∧ (∀ (Q : VK), Q (.bl (!b)) H → wpAny (model X.prog X.w) X.A (compareOp .NotIn v u) (EP X pins σ Q) X.xe s) := by
  by_cases hs : ∃ z, e = .str z
  · obtain ⟨z, rfl⟩ := hs
    cases q2
    cases d <;> simp [inD] at hb
    rename_i x0
    cases q1
    unfold strIn at hb
    split at hb
    · rename_i c hc
      have ex := one_sign hc
      subst ex hb
      exact ⟨fun Q q => op_in_sign pins s σ H _ _ v u Q I rx ry ⟨c, z, rfl, rfl, q⟩, fun Q q => op_notIn_sign pins s σ H _ _ v u Q I rx ry ⟨c, z, rfl, rfl, q⟩⟩
    · subst hb
      exact ⟨fun Q q => op_in_str pins s σ H _ _ v u Q I rx ry ⟨x0, z, rfl, rfl, q⟩, fun Q q => op_notIn_str pins s σ H _ _ v u Q I rx ry ⟨x0, z, rfl, rfl, q⟩⟩
  · have hb2 : (match dicOf h e with | some kvs => (keyD d).map fun k => (lookK kvs k).isSome | none => inSeq h d e) = some b := by
      cases e <;> first | exact hb | exact absurd ⟨_, rfl⟩ hs
    cases hd : dicOf h e with
    | some kvs =>
      rw [hd] at hb2
      obtain ⟨k, hk, eb⟩ := Option.map_eq_some_iff.mp hb2
      obtain ⟨a, ks, ey, ha, rk⟩ := dic_rd r hd q2
      subst ey
      obtain rfl : u = Value.ref a := ry
      have ex := keyD_rd hk q1
      subst ex
      have ev : (valV ks k).isSome = b := by
        rcases rk.look k with ⟨h1, h2⟩ | ⟨_, _, h1, h2, _⟩
        · rw [h2, ← eb, h1]; rfl
        · rw [h2, ← eb, h1]; rfl
      refine ⟨fun Q q => d_in (by omega) I (.inl ⟨ks, k, ha, rfl, rfl⟩) rx fun s' I' => ⟨.bl _, H, I', rfl, ?_⟩, fun Q q => d_notIn (by omega) I (.inl ⟨ks, k, ha, rfl, rfl⟩) rx fun s' I' => ⟨.bl _, H, I', rfl, ?_⟩⟩
      · rw [ev]; exact q
      · rw [ev]; exact q
    | none =>
      rw [hd] at hb2
      simp only [inSeq] at hb2
      cases e1 : pd h eqFuel d with
      | none => rw [e1] at hb2; simp at hb2
      | some p =>
        cases e2 : pd h eqFuel e with
        | none => rw [e1, e2] at hb2; simp at hb2
        | some pe =>
          rw [e1, e2] at hb2
          have D1 := dp_of r _ _ _ _ e1 q1
          have D2 := dp_of r _ _ _ _ e2 q2
          rw [← hK] at D1 D2
          obtain ⟨as, r1⟩ := Dp.reads I _ x v D1 rx
          obtain ⟨bs, r2⟩ := Dp.reads I _ y u D2 ry
          cases pe <;> simp at hb2
          · obtain ⟨⟨s1, s2⟩, eb⟩ := hb2
            subst eb
            exact ⟨fun Q q => SeqAt.in_list_reads r2 r1 (SeqAt.canLay_of_shaped s2) (SeqAt.canLay_of_shaped s1) (room_in_shaped s1 hu) ⟨.bl _, H, I, rfl, q⟩,
              fun Q q => SeqAt.notIn_list_reads r2 r1 (SeqAt.canLay_of_shaped s2) (SeqAt.canLay_of_shaped s1) (room_in_shaped s1 hu) ⟨.bl _, H, I, rfl, q⟩⟩
          · obtain ⟨⟨s1, s2⟩, eb⟩ := hb2
            subst eb
            exact ⟨fun Q q => SeqAt.in_tuple_reads r2 r1 (SeqAt.canLay_of_shaped s2) (SeqAt.canLay_of_shaped s1) (room_in_shaped s1 hu) ⟨.bl _, H, I, rfl, q⟩,
              fun Q q => SeqAt.notIn_tuple_reads r2 r1 (SeqAt.canLay_of_shaped s2) (SeqAt.canLay_of_shaped s1) (room_in_shaped s1 hu) ⟨.bl _, H, I, rfl, q⟩⟩
theorem or_in (hK : X.K = G.K) (hu : X.A.units + 65 < cLine) : OpR X (compareOp .In) (rop G inP) := by
  intro pins s σ H x y v u Q I rx ry h
  obtain ⟨ρ, h0, F, R, d, e, r, q1, q2, wp⟩ := h
  cases hb : inD h0 d e with
  | none => simp [inP, hb, bD, Res.of, Wp] at wp
  | some b =>
    simp only [inP, hb, bD, Res.of, Option.map_some] at wp
    exact (in_any hK hu r hb q1 q2 I rx ry).1 Q (wp_val r wp (.bl b))
theorem or_notIn (hK : X.K = G.K) (hu : X.A.units + 65 < cLine) : OpR X (compareOp .NotIn) (rop G notInP) := by
  intro pins s σ H x y v u Q I rx ry h
  obtain ⟨ρ, h0, F, R, d, e, r, q1, q2, wp⟩ := h
  cases hb : inD h0 d e with
  | none => simp [notInP, hb, bD, Res.of, Wp] at wp
  | some b =>
    simp only [notInP, hb, bD, Res.of, Option.map_some] at wp
    exact (in_any hK hu r hb q1 q2 I rx ry).2 Q (wp_val r wp (.bl _))
def isNone : D → Bool
  | .non => true
  | _ => false
def isP : P2 := fun d e h => match e with
  | .non => some (.bl (isNone d), h)
  | _ => none
def isNotP : P2 := fun d e h => match e with
  | .non => some (.bl (!isNone d), h)
  | _ => none
theorem isNone_rd {ρ : AM} {m : Nat} {F : Hp} {d : D} {v : V} (q : RD G ρ m F d v) : decide (v = .non) = isNone d := by
  cases q <;> simp [isNone]
theorem or_is : OpR X (compareOp .Is) (rop G isP) := by
  intro pins s σ H x y v u Q I rx ry h
  obtain ⟨ρ, h0, F, R, d, e, r, q1, q2, wp⟩ := h
  cases e <;> try exact wp.elim
  cases q2
  exact op_isN pins s σ H x _ v u Q I rx ry ⟨rfl, by rw [isNone_rd q1]; exact wp_val r wp (.bl _)⟩
theorem or_isNot : OpR X (compareOp .IsNot) (rop G isNotP) := by
  intro pins s σ H x y v u Q I rx ry h
  obtain ⟨ρ, h0, F, R, d, e, r, q1, q2, wp⟩ := h
  cases e <;> try exact wp.elim
  cases q2
  exact op_notN pins s σ H x _ v u Q I rx ry ⟨rfl, by rw [isNone_rd q1]; exact wp_val r wp (.bl _)⟩
def intP (C : Int → Int → Bool) (g : Int → Int → D) : P2 := fun d e h => match d, e with
  | .int i, .int j => if C i j = true then some (g i j, h) else none
  | _, _ => none
theorem or_int {f : Value → Value → Sem Value} {C : Int → Int → Bool} {g : Int → Int → D} {g' : Int → Int → V} {r0 : R2} (ho : OpR X f r0) (hr : ∀ i j H Q, C i j = true → Q (g' i j) H → r0 (.int i) (.int j) H Q)
    (hg : ∀ ρ m F i j, RD G ρ m F (g i j) (g' i j)) : OpR X f (rop G (intP C g)) := by
  intro pins s σ H x y v u Q I rx ry h
  obtain ⟨ρ, h0, F, R, d, e, r, q1, q2, wp⟩ := h
  cases d <;> try exact wp.elim
  cases e <;> try exact wp.elim
  rename_i i j
  cases q1
  cases q2
  by_cases hc : C i j = true
  · simp only [intP, hc, if_true, Res.of] at wp
    exact ho pins s σ H _ _ v u Q I rx ry (hr i j H Q hc (wp_val r wp (hg _ _ _ _ _)))
  · simp only [intP, if_neg hc, Res.of] at wp
    exact wp.elim
abbrev yes2 : Int → Int → Bool := fun _ _ => true
def subP : P2 := intP yes2 fun i j => .int (i - j)
theorem or_sub : OpR X (binaryOp .Sub) (rop G subP) := or_int (g' := fun i j => .int (i - j)) op_sub (fun i j H Q _ q => ⟨i, j, rfl, rfl, q⟩) fun _ _ _ _ _ => .int _
def divOk (i j : Int) : Bool := decide (0 < j) && decide (j < 1073741824)
def fdivP : P2 := intP divOk fun i j => .int (i / j)
theorem or_fdiv : OpR X (binaryOp .FloorDiv) (rop G fdivP) := or_int (g' := fun i j => .int (i / j)) op_fdiv (fun i j H Q c q => ⟨i, j, rfl, rfl, by simpa [divOk, CDiv] using c, q⟩) fun _ _ _ _ _ => .int _
def modP : P2 := intP (fun _ j => decide (0 < j)) fun i j => .int (i % j)
theorem or_mod : OpR X (binaryOp .Mod) (rop G modP) := or_int (g' := fun i j => .int (i % j)) op_mod (fun i j H Q c q => ⟨i, j, rfl, rfl, by simpa using c, q⟩) fun _ _ _ _ _ => .int _
def powOk (i j : Int) : Bool := decide (0 ≤ j) && decide (j ≤ 1000000) && decide (i.natAbs < 2 ^ 64)
def powP : P2 := intP powOk fun i j => .int (i ^ j.toNat)
theorem or_pow : OpR X (binaryOp .Pow) (rop G powP) := or_int (g' := fun i j => .int (i ^ j.toNat)) op_pow (fun i j H Q c q => ⟨i, j, rfl, rfl, by simpa [powOk, CPow, and_assoc] using c, q⟩) fun _ _ _ _ _ => .int _
def ltP : P2 := fun d e h => match d, e with
  | .int i, .int j => some (.bl (decide (i < j)), h)
  | .str x, .str y => some (.bl (decide (x.cps.toList < y.cps.toList)), h)
  | _, _ => none
def leP : P2 := fun d e h => match d, e with
  | .int i, .int j => some (.bl (decide (i ≤ j)), h)
  | .str x, .str y => some (.bl (!decide (y.cps.toList < x.cps.toList)), h)
  | _, _ => none
def gtP : P2 := fun d e h => match d, e with
  | .int i, .int j => some (.bl (decide (j < i)), h)
  | .str x, .str y => some (.bl (decide (y.cps.toList < x.cps.toList)), h)
  | _, _ => none
def geP : P2 := fun d e h => match d, e with
  | .int i, .int j => some (.bl (decide (j ≤ i)), h)
  | .str x, .str y => some (.bl (!decide (x.cps.toList < y.cps.toList)), h)
  | _, _ => none
theorem or_lt : OpR X (compareOp .Lt) (rop G ltP) := by
  intro pins s σ H x y v u Q I rx ry h
  obtain ⟨ρ, h0, F, R, d, e, r, q1, q2, wp⟩ := h
  cases d <;> try exact wp.elim
  · cases e <;> try exact wp.elim
    cases q1; cases q2
    exact op_lt pins s σ H _ _ v u Q I rx ry ⟨_, _, rfl, rfl, wp_val r wp (.bl _)⟩
  · cases e <;> try exact wp.elim
    cases q1; cases q2
    exact op_lt_str pins s σ H _ _ v u Q I rx ry ⟨_, _, rfl, rfl, wp_val r wp (.bl _)⟩
theorem or_le : OpR X (compareOp .LtE) (rop G leP) := by
  intro pins s σ H x y v u Q I rx ry h
  obtain ⟨ρ, h0, F, R, d, e, r, q1, q2, wp⟩ := h
  cases d <;> try exact wp.elim
  · cases e <;> try exact wp.elim
    cases q1; cases q2
    exact op_le pins s σ H _ _ v u Q I rx ry ⟨_, _, rfl, rfl, wp_val r wp (.bl _)⟩
  · cases e <;> try exact wp.elim
    cases q1; cases q2
    exact op_le_str pins s σ H _ _ v u Q I rx ry ⟨_, _, rfl, rfl, wp_val r wp (.bl _)⟩
theorem or_gt : OpR X (compareOp .Gt) (rop G gtP) := by
  intro pins s σ H x y v u Q I rx ry h
  obtain ⟨ρ, h0, F, R, d, e, r, q1, q2, wp⟩ := h
  cases d <;> try exact wp.elim
  · cases e <;> try exact wp.elim
    cases q1; cases q2
    exact op_gt pins s σ H _ _ v u Q I rx ry ⟨_, _, rfl, rfl, wp_val r wp (.bl _)⟩
  · cases e <;> try exact wp.elim
    cases q1; cases q2
    exact op_gt_str pins s σ H _ _ v u Q I rx ry ⟨_, _, rfl, rfl, wp_val r wp (.bl _)⟩
theorem or_ge : OpR X (compareOp .GtE) (rop G geP) := by
  intro pins s σ H x y v u Q I rx ry h
  obtain ⟨ρ, h0, F, R, d, e, r, q1, q2, wp⟩ := h
  cases d <;> try exact wp.elim
  · cases e <;> try exact wp.elim
    cases q1; cases q2
    exact op_ge pins s σ H _ _ v u Q I rx ry ⟨_, _, rfl, rfl, wp_val r wp (.bl _)⟩
  · cases e <;> try exact wp.elim
    cases q1; cases q2
    exact op_ge_str pins s σ H _ _ v u Q I rx ry ⟨_, _, rfl, rfl, wp_val r wp (.bl _)⟩
def lstW (h : List O) : D → Option (List D)
  | .lst xs => some xs
  | .loc n => match h[n]? with
    | some (.lst xs) => some xs
    | _ => none
  | _ => none
theorem lstW_rd {ρ : AM} {h : List O} {F R H : Hp} (r : Rel G ρ h F R H) {d : D} {v : V} {xs : List D} (e : lstW h d = some xs) (q : RD G ρ h.length F d v) :
    ∃ a vs, v = .ref a ∧ H a = some (.lst vs) ∧ RDs G ρ h.length F xs vs := by
  cases d with
  | lst ys => cases q with | lst a b => simp [lstW] at e; subst e; exact ⟨_, _, rfl, r.fr _ _ a, b⟩
  | loc n =>
    cases q with
    | loc _ hn =>
      simp only [lstW] at e
      cases e0 : h[n]? with
      | none => rw [e0] at e; simp at e
      | some o =>
        rw [e0] at e
        cases o with
        | lst ys =>
          simp at e
          subst e
          obtain ⟨vs, h1, h2⟩ := r.lv n _ e0
          exact ⟨_, vs, rfl, h1, h2⟩
        | dic _ => simp at e
        | ins _ _ => simp at e
        | ind _ _ => simp at e
  | _ => simp [lstW] at e
def mkL (lv : Bool) (xs : List D) (h : List O) : D × List O := if lv = true then (.loc h.length, h ++ [.lst xs]) else (.lst xs, h)
def mkD (lv : Bool) (kvs : List (Key × D)) (h : List O) : D × List O := if lv = true then (.loc h.length, h ++ [.dic kvs]) else (.dic kvs, h)
theorem wp_mkL {ρ : AM} {h : List O} {F R H : Hp} {Q : VK} {σ : L2.St} {W : WX} {lv : Bool} {xs : List D} {vs : List V} {p : Addr} (r : Rel G ρ h F R H) (wp : Wp G (LD G) W R ρ h.length F (Res.of (some (mkL lv xs h))) σ Q) (hp : H p = none)
    (q : RDs G ρ h.length F xs vs) : Q (.ref p) (upd H p (.lst vs)) := by
  cases lv with
  | true => exact wp_new rfl r wp hp fun ρ' m' x hn => ro_lst q x hn
  | false => exact wp_frz r wp hp fun F' x hF => .lst hF (q.mono x)
theorem wp_mkD {ρ : AM} {h : List O} {F R H : Hp} {Q : VK} {σ : L2.St} {W : WX} {lv : Bool} {xs : List (Key × D)} {vs : List (Key × V)} {p : Addr} (r : Rel G ρ h F R H) (wp : Wp G (LD G) W R ρ h.length F (Res.of (some (mkD lv xs h))) σ Q) (hp : H p = none)
    (q : RDk G ρ h.length F xs vs) : Q (.ref p) (upd H p (.dK vs)) := by
  cases lv with
  | true => exact wp_new rfl r wp hp fun ρ' m' x hn => ⟨vs, by rw [hn]; exact upd_same, q.mono x⟩
  | false => exact wp_frz r wp hp fun F' x hF => .dic (.inl hF) (q.mono x)
def addL (lv : Bool) (d e : D) (h : List O) : Option (D × List O) :=
  match lstW h d, lstW h e with
  | some xs, some ys => if xs.length + ys.length ≤ sizeLine then some (mkL lv (xs ++ ys) h) else none
  | _, _ => none
def addP (lv : Bool) : P2 := fun d e h => match d with
  | .int i => match e with
    | .int j => some (.int (i + j), h)
    | _ => none
  | .str x => match e with
    | .str y => if x.length + y.length ≤ sizeLine then some (.str (x ++ y), h) else none
    | _ => none
  | .tup xs => match e with
    | .tup ys => if xs.length + ys.length ≤ sizeLine then some (.tup (xs ++ ys), h) else none
    | _ => none
  | d => addL lv d e h
theorem lay_tup {pins : List (Addr × Obj)} {s : Shared} {σ : L2.St} {H : Hp} {vs : List V} {us : List Value} (I : Inv X pins σ H s) (r : Vals vs us) (hz : vs.length ≤ sizeLine) (t' : Nat) :
    Inv X pins σ (upd H s.heap.objs.size (.frz { cls := .type "tuple", data := .seq us.toArray } (.tup vs))) { s with heap := s.heap.push { cls := .type "tuple", data := .seq us.toArray }, toks := t' } :=
  I.laid (fun b u e => Heap.get?_push_of_some _ e) (Nat.le_refl _) ⟨Heap.get?_push_size _ rfl, hz, us, r, IsTup.new _ _⟩
theorem rd_newTup {ρ : AM} {m : Nat} {F F' : Hp} {p : Addr} {o : Obj} {xs : List D} {vs : List V} (q : RDs G ρ m F xs vs) (hd : o.dict = none) (e : Ext ρ m F ρ m F') (hp : F' p = some (.frz o (.tup vs))) : RD G ρ m F' (.tup xs) (.ref p) :=
  .tup (.inl ⟨o, hp, hd⟩) (q.mono e)
theorem or_add (hK : X.K = G.K) (lv : Bool) : OpR X (binaryOp .Add) (rop G (addP lv)) := by
  intro pins s σ H x y v u Q I rx ry h
  obtain ⟨ρ, h0, F, R, d, e, r, q1, q2, wp⟩ := h
  have lists : Wp G (LD G) W0 R ρ h0.length F (Res.of (addL lv d e h0)) [] Q → wpAny (model X.prog X.w) X.A (binaryOp .Add v u) (EP X pins σ Q) X.xe s := fun wp => by
    unfold addL at wp
    cases e1 : lstW h0 d with
    | none => rw [e1] at wp; exact wp.elim
    | some xs =>
      cases e2 : lstW h0 e with
      | none => rw [e1, e2] at wp; exact wp.elim
      | some ys =>
        rw [e1, e2] at wp
        simp only at wp
        by_cases hz : xs.length + ys.length ≤ sizeLine
        · rw [if_pos hz] at wp
          obtain ⟨a, vs, ex, ha, ra⟩ := lstW_rd r e1 q1
          obtain ⟨b, ws, ey, hb, rb⟩ := lstW_rd r e2 q2
          subst ex ey
          exact op_cat pins s σ H _ _ v u Q I rx ry ⟨a, b, vs, ws, rfl, rfl, ha, hb, by rw [← ra.length, ← rb.length]; exact hz, fun p hp => wp_mkL r wp hp (ra.append rb)⟩
        · rw [if_neg hz] at wp; exact wp.elim
  cases d with
  | int i =>
    cases e <;> try exact wp.elim
    cases q1; cases q2
    exact op_add pins s σ H _ _ v u Q I rx ry ⟨_, _, rfl, rfl, wp_val r wp (.int _)⟩
  | str z =>
    cases e <;> try exact wp.elim
    rename_i z2
    cases q1; cases q2
    simp only [addP] at wp
    by_cases hz : z.length + z2.length ≤ sizeLine
    · rw [if_pos hz] at wp
      exact op_add_str pins s σ H _ _ v u Q I rx ry ⟨_, _, rfl, rfl, hz, wp_val r wp (.str _)⟩
    · rw [if_neg hz] at wp; exact wp.elim
  | tup xs =>
    cases e <;> try exact wp.elim
    rename_i ys
    simp only [addP] at wp
    by_cases hz : xs.length + ys.length ≤ sizeLine
    · rw [if_pos hz] at wp
      cases q1 with
      | tup t1 r1 =>
        cases q2 with
        | tup t2 r2 =>
          rename_i a vs b ws
          have T1 : SqT X.K H a vs := by rw [hK]; exact (r.fr.tupAt t1).sq
          have T2 : SqT X.K H b ws := by rw [hK]; exact (r.fr.tupAt t2).sq
          cases rx
          cases ry
          obtain ⟨its, i1, p1, _⟩ := I.tuple T1
          obtain ⟨its2, i2, p2, _⟩ := I.tuple T2
          have hz' : vs.length + ws.length ≤ sizeLine := by rw [← r1.length, ← r2.length]; exact hz
          by_cases hx : vs = []
          · subst hx
            cases i1
            cases r1
            exact cat_tup0 p1 p2 ⟨.ref b, H, I, rfl, wp_val r wp (.tup t2 (by simpa using r2))⟩
          · refine HT.cat_tup p1 p2 (fun z => hx (i1.nil_iff.mp z)) (fun z => ⟨.ref a, H, I, rfl, ?_⟩) (fun z => ?_) (by rw [← i1.length, ← i2.length]; exact hz')
            · have e2 : ws = [] := i2.nil_iff.mp z
              subst e2
              cases r2
              exact wp_val r wp (.tup t1 (by simpa using r1))
            · have hp := I.hok.fresh (Nat.le_refl s.heap.objs.size)
              refine ⟨.ref s.heap.objs.size, _, lay_tup (t' := s.toks) I (i1.append i2) (by rw [List.length_append]; exact hz'), rfl, ?_⟩
              exact wp_frz r wp hp fun F' x hF => rd_newTup (r1.append r2) rfl x hF
    · rw [if_neg hz] at wp; exact wp.elim
  | non => exact lists wp
  | bl _ => exact lists wp
  | lst _ => exact lists wp
  | scr _ => exact lists wp
  | dic _ => exact lists wp
  | obj _ _ => exact lists wp
  | fn _ => exact lists wp
  | cl _ => exact lists wp
  | ty _ => exact lists wp
  | xn _ _ => exact lists wp
  | loc _ => exact lists wp
def small64 (i : Int) : Bool := decide (-(2 ^ 64) < i) && decide (i < 2 ^ 64)
def mulL (lv : Bool) (d : D) (k : Int) (h : List O) : Option (D × List O) :=
  match lstW h d with
  | some xs => if -(2 ^ 63) ≤ k ∧ k < 2 ^ 63 ∧ xs.length * k.toNat ≤ sizeLine then some (mkL lv (List.replicate k.toNat xs).flatten h) else none
  | none => none
def mulT (xs : List D) (k : Int) (h : List O) : Option (D × List O) := if xs ≠ [] ∧ 1 ≤ k ∧ k ≤ 1000 ∧ xs.length ≤ 1000 then some (.tup (List.replicate k.toNat xs).flatten, h) else none
def mulP (lv : Bool) : P2 := fun d e h => match e with
  | .int j => match d with
    | .int i => if small64 i = true ∨ small64 j = true then some (.int (i * j), h) else none
    | .tup xs => mulT xs j h
    | d => mulL lv d j h
  | _ => none
section
variable {X : Cx}
theorem mul_road {pins : List (Addr × Obj)} {s : Shared} {σ : L2.St} {H : Hp} {l : Addr} {xs : List V} {k : Int} {t : Tok} {Q : Value → Shared → Prop} {E : Value → Shared → Prop} (I : Inv X pins σ H s) (hT : SqT X.K H l xs)
    (h : ∀ (its : List Value) (n : Nat) (dd : Option Addr) (sl : Array (Option Value)), Vals xs its → s.heap.get? l = some { cls := .type "tuple", dict := dd, data := .seq its.toArray n, slots := sl } → wpAny (model X.prog X.w) X.A (call (.builtin "tuple.__mul__") [.ref l, .int k t]) Q E s) :
    wpAny (model X.prog X.w) X.A (binaryOp .Mult (.ref l) (.int k t)) Q E s := by
  obtain ⟨its, r, ⟨⟨cls, dd, data, sl⟩, ho, hc, n, hd⟩, hs⟩ := I.tuple hT
  simp only at hc hd
  subst hc hd
  exact wpAny_binaryOp_repeat_ref (T := "tuple") (U := "int") (by decide) ⟨_, ho, rfl⟩ (fun s' => typeIs_int s' k t) noFill_tuple_mul F.fills_int_mul F.slot_int_rmul repeat_tuple F.slot_int_index.lookup
    (call_meets F.slot_int_rmul (typeIs_int s k t) F.entry_int_rmul (F.args_int_rmul_2 _ _) (int_rmul_tuple k t l its.toArray n dd sl) ⟨ho, rfl, ⟨_, ho, rfl⟩, h its n dd sl r ho⟩)
theorem tuple_mul1 (l : Addr) (items : Array Value) (n : Nat) (dd : Option Addr) (sl : Array (Option Value)) (u : Tok) :
    Meets (Builtin.«tuple.__mul__» ⟨[.ref l, .int 1 u], []⟩) (fun _ R s => s.heap.get? l = some { cls := .type "tuple", dict := dd, data := .seq items n, slots := sl } ∧ R (.ok (.ret (Value.ref l))) s) :=
  .of_wp fun prog w A R s h => by
    obtain ⟨hp, g, d, tk, os⟩ := s
    obtain ⟨hl, h⟩ := h
    have f1 := AutoSeq1.idx_int
    wp_walk using wpAny_loadPart' hl
    first
      | exact ⟨_, rfl, h⟩
      | (refine wpAny_ite_true (decide_eq_true (by simp)) ?_; wp_walk using wpAny_loadPart' hl; exact ⟨_, rfl, h⟩)
theorem mul_1 {pins : List (Addr × Obj)} {s : Shared} {σ : L2.St} {H : Hp} {l : Addr} {xs : List V} {t : Tok} {Q : VK} (I : Inv X pins σ H s) (hT : SqT X.K H l xs) (q : Q (.ref l) H) : wpAny (model X.prog X.w) X.A (binaryOp .Mult (.ref l) (.int 1 t)) (EP X pins σ Q) X.xe s :=
  mul_road I hT fun its n dd sl r ho => call_meets F.slot_tuple_mul ⟨_, ho, rfl⟩ F.entry_tuple_mul (F.args_tuple_mul_2 _ _) (tuple_mul1 l its.toArray n dd sl t) ⟨ho, ⟨.ref l, H, I, rfl, q⟩⟩
theorem mul_n {pins : List (Addr × Obj)} {s : Shared} {σ : L2.St} {H : Hp} {l : Addr} {xs : List V} {k : Int} {t : Tok} {Q : Value → Shared → Prop} (I : Inv X pins σ H s) (hT : SqT X.K H l xs) (hne : xs ≠ []) (h1 : 2 ≤ k) (h2 : k ≤ 1000) (hz : xs.length ≤ 1000)
    (q : ∀ its : List Value, Vals xs its → Q (.ref s.heap.objs.size) { s with heap := s.heap.push { cls := .type "tuple", data := .seq (List.replicate k.toNat its).flatten.toArray }, toks := s.toks }) : wpAny (model X.prog X.w) X.A (binaryOp .Mult (.ref l) (.int k t)) Q X.xe s := by
  refine mul_road I hT fun its n dd sl r ho => ?_
  have hle : its.length = xs.length := r.length.symm
  have hi : its.toArray.isEmpty = false := by
    cases its with
    | nil => exact absurd (List.eq_nil_of_length_eq_zero hle.symm) hne
    | cons a b => rfl
  have e0 : its.toArray.size = xs.length := by simpa using hle
  have hm : ((xs.length : Nat) : Int) * k ≤ 1000 * k := Int.mul_le_mul_of_nonneg_right (by omega) (by omega)
  have flen : (List.replicate k.toNat its).flatten.length ≤ 1000 * 1000 := by
    rw [PyProof.Rows.lm_len_rep_flat, hle]
    exact Nat.mul_le_mul (by omega) hz
  have hsl : sizeLine = 16777216 := sizeLine_eq
  have c4 : Builtin.Tuple.tupleTooMany (((its.toArray.size : Nat) : Int) * k) = false := by
    unfold Builtin.Tuple.tupleTooMany
    rw [e0, hsl]; exact decide_eq_false (by omega)
  refine call_meets F.slot_tuple_mul ⟨_, ho, rfl⟩ F.entry_tuple_mul (F.args_tuple_mul_2 _ _) (tuple_mulW l its.toArray n dd sl k t ?_ ?_ ?_ (by rw [e0]; omega) c4 (by rw [size_rep, List.size_toArray]; omega)) ⟨ho, ?_⟩
  · simp only [Bool.or_eq_false_iff, decide_eq_false_iff_not]; omega
  · rw [hi]; simp only [Bool.false_or, beq_eq_false_iff_ne]; omega
  · rw [hi]; simp only [Bool.or_false, decide_eq_false_iff_not]; omega
  · rw [size_rep]; exact q its r
end
theorem RDs.rep {ρ : AM} {m : Nat} {F : Hp} {xs : List D} {vs : List V} (q : RDs G ρ m F xs vs) : ∀ n : Nat, RDs G ρ m F (List.replicate n xs).flatten (List.replicate n vs).flatten
  | 0 => .nil
  | n + 1 => by
    simp only [List.replicate_succ, List.flatten_cons]
    exact q.append (q.rep n)
theorem or_mul (hK : X.K = G.K) (lv : Bool) : OpR X (binaryOp .Mult) (rop G (mulP lv)) := by
  intro pins s σ H x y v u Q I rx ry h
  obtain ⟨ρ, h0, F, R, d, e, r, q1, q2, wp⟩ := h
  cases e <;> try exact wp.elim
  rename_i k
  cases q2
  have lists : Wp G (LD G) W0 R ρ h0.length F (Res.of (mulL lv d k h0)) [] Q → wpAny (model X.prog X.w) X.A (binaryOp .Mult v u) (EP X pins σ Q) X.xe s := fun wp => by
    unfold mulL at wp
    cases e1 : lstW h0 d with
    | none => rw [e1] at wp; exact wp.elim
    | some xs =>
      rw [e1] at wp
      simp only at wp
      by_cases hz : -(2 ^ 63) ≤ k ∧ k < 2 ^ 63 ∧ xs.length * k.toNat ≤ sizeLine
      · rw [if_pos hz] at wp
        obtain ⟨a, vs, ex, ha, ra⟩ := lstW_rd r e1 q1
        subst ex
        exact op_rep pins s σ H _ _ v u Q I rx ry ⟨a, k, vs, rfl, rfl, ha, hz.1, hz.2.1, by rw [← ra.length]; exact hz.2.2, fun p hp => wp_mkL r wp hp (ra.rep _)⟩
      · rw [if_neg hz] at wp; exact wp.elim
  cases d with
  | int i =>
    cases q1
    simp only [mulP] at wp
    by_cases hz : small64 i = true ∨ small64 k = true
    · rw [if_pos hz] at wp
      exact op_mul pins s σ H _ _ v u Q I rx ry ⟨_, _, rfl, rfl, by simpa [small64, CMul] using hz, wp_val r wp (.int _)⟩
    · rw [if_neg hz] at wp; exact wp.elim
  | tup xs =>
    simp only [mulP, mulT] at wp
    by_cases hz : xs ≠ [] ∧ 1 ≤ k ∧ k ≤ 1000 ∧ xs.length ≤ 1000
    · rw [if_pos hz] at wp
      have q1' := q1
      cases q1 with
      | tup t1 r1 =>
        rename_i a vs
        have T1 : SqT X.K H a vs := by rw [hK]; exact (r.fr.tupAt t1).sq
        have hl := r1.length
        obtain rfl : v = Value.ref a := rx
        obtain ⟨t, rfl⟩ := ry
        by_cases hk : k = 1
        · subst hk
          have e1 : (List.replicate (1 : Int).toNat xs).flatten = xs := by simp [List.replicate]
          rw [e1] at wp
          exact mul_1 I T1 (wp_val r wp q1')
        · refine mul_n I T1 (fun e => hz.1 (List.eq_nil_of_length_eq_zero (by rw [hl, e]; rfl))) (by omega) hz.2.2.1 (by omega) fun its i1 => ?_
          have flen : (List.replicate k.toNat vs).flatten.length ≤ 1000 * 1000 := by
            rw [PyProof.Rows.lm_len_rep_flat, ← hl]
            exact Nat.mul_le_mul (by omega) hz.2.2.2
          refine ⟨.ref s.heap.objs.size, _, lay_tup (t' := s.toks) I (i1.rep k.toNat) (by rw [sizeLine_eq]; omega), rfl, ?_⟩
          exact wp_frz r wp (I.hok.fresh (Nat.le_refl _)) fun F' x hF => rd_newTup (r1.rep _) rfl x hF
    · rw [if_neg hz] at wp; exact wp.elim
  | _ => exact lists wp
end
end Lo
namespace Lo
open PySem PySem.Spec PyProof.Rows L2
def acV (i : Nat) : Ac := fun s h => match s[i]? with
  | some (some d) => .ok d h
  | _ => .no
def acC (d : D) : Ac := fun _ h => .ok d h
def acNo : Ac := fun _ _ => .no
def ac1 (f : P1) (A : Ac) : Ac := fun s h => (A s h).bind fun d h1 => Res.of (f d h1)
def ac2 (f : P2) (A B : Ac) : Ac := fun s h => (A s h).bind fun d h1 => (B s h1).bind fun e h2 => Res.of (f d e h2)
def acCh (f g : P2) (A B C : Ac) : Ac := fun s h => (A s h).bind fun d h1 => (B s h1).bind fun e h2 => (Res.of (f d e h2)).bind fun z h3 => match z with
  | .bl true => (C s h3).bind fun c h4 => Res.of (g e c h4)
  | .bl false => .ok (.bl false) h3
  | _ => .no
def acAnd (A B : Ac) : Ac := fun s h => (A s h).bind fun d h1 => match d with
  | .bl true => B s h1
  | .bl false => .ok (.bl false) h1
  | _ => .no
def acOr (A B : Ac) : Ac := fun s h => (A s h).bind fun d h1 => match d with
  | .bl true => .ok (.bl true) h1
  | .bl false => B s h1
  | _ => .no
def acNot (A : Ac) : Ac := fun s h => (A s h).bind fun d h1 => match d with
  | .bl b => .ok (.bl (!b)) h1
  | _ => .no
def acIf (T : AcB) (A B : Ac) : Ac := fun s h => (T s h).bind fun b h1 => if b = true then A s h1 else B s h1
def truD (h : List O) : D → Option Bool
  | .non => some false
  | .bl b => some b
  | .int i => some (i != 0)
  | .str x => if x.length ≤ sizeLine then some ((x.length : Int) != 0) else none
  | d => match seqOf h d with
    | some xs => some (!xs.isEmpty)
    | none => match dicOf h d with
      | some kvs => some (!kvs.isEmpty)
      | none => none
def tbV (A : Ac) : AcB := fun s h => (A s h).bind fun d h1 => match truD h1 d with
  | some b => .ok b h1
  | none => .no
def tbAnd (T U : AcB) : AcB := fun s h => (T s h).bind fun b h1 => if b = true then U s h1 else .ok false h1
def tbOr (T U : AcB) : AcB := fun s h => (T s h).bind fun b h1 => if b = true then .ok true h1 else U s h1
def tbNot (T : AcB) : AcB := fun s h => (T s h).bind fun b h1 => .ok (!b) h1
def alNil : AcL := fun _ h => .ok [] h
def alCons (A : Ac) (B : AcL) : AcL := fun s h => (A s h).bind fun d h1 => (B s h1).bind fun ds h2 => .ok (d :: ds) h2
def alStar (A : Ac) (B : AcL) : AcL := fun s h => (A s h).bind fun d h1 => match seqOf h1 d with
  | some xs => (B s h1).bind fun ds h2 => .ok (xs ++ ds) h2
  | none => .no
def acN (f : PN) (B : AcL) : Ac := fun s h => (B s h).bind fun ds h1 => Res.of (f ds h1)
def tupP : PN := fun ds h => if ds.length ≤ sizeLine then some (.tup ds, h) else none
def lstP (lv : Bool) : PN := fun ds h => if ds.length ≤ sizeLine then some (mkL lv ds h) else none
section
variable {X : Cx} {G : GI} {W : WX} {pos : Pos} {a b c : Expr} {A B C : Ac} {T U : AcB}
theorem pe_no {e : Expr} : PE X e (rd G W acNo) := ⟨fun pins s σ H Q I ⟨_, _, _, _, _, _, _, h⟩ => h.elim⟩
theorem pe_v {i : Nat} {x : Str} (hN : X.N[i]? = some x) (hv : Vis X.env.scope x) (hd : (x == ("__debug__" : Str)) = false) (hcd : (x == ("__classdict__" : Str)) = false) : PE X (.Name x pos) (rd G W (acV i)) :=
  (pe_var hN hv hd hcd).weakL fun σ H Q ⟨ρ, s, h, F, R, r, sr, wp⟩ => by
    unfold acV at wp
    cases e : s[i]? with
    | none => rw [e] at wp; exact wp.elim
    | some o =>
      cases o with
      | none => rw [e] at wp; exact wp.elim
      | some d =>
        rw [e] at wp
        obtain ⟨v, hv, q⟩ := sr.val i d e
        exact ⟨v, hv, wp_val r wp q⟩
theorem pe_const {e : Expr} {d : D} {v : V} (h : PE X e (tC v)) (q : ∀ ρ m F, RD G ρ m F d v) : PE X e (rd G W (acC d)) :=
  h.weakL fun σ H Q ⟨ρ, s, h, F, R, r, sr, wp⟩ => wp_val r wp (q _ _ _)
theorem rd2 {f : P2} {σ : L2.St} {H : Hp} {Q : VK} (h : rd G W (ac2 f A B) σ H Q) : tOp (rop G f) (rd G W A) (rd G W B) σ H Q := by
  obtain ⟨ρ, s, h, F, R, r, sr, wp⟩ := h
  refine step r sr wp fun ρ1 h1 F1 d x H1 x1 r1 q1 wp1 => ?_
  refine step r1 (sr.mono x1) wp1 fun ρ2 h2 F2 e y H2 x2 r2 q2 wp2 => ?_
  refine ⟨ρ2, h2, F2, R, d, e, r2, q1.mono x2, q2, ?_⟩
  cases e3 : f d e h2 with
  | none => rw [e3] at wp2; exact wp2
  | some p => rw [e3] at wp2; exact wp2
theorem pe_bin {op : Operator} {f : P2} (ho : OpR X (binaryOp op) (rop G f)) (ha : PE X a (rd G W A)) (hb : PE X b (rd G W B)) : PE X (.BinOp a op b pos) (rd G W (ac2 f A B)) :=
  (pe_op ho ha hb).weakL fun _ _ _ => rd2
theorem pe_cmp2 {op : CmpOp} {f : P2} (ho : OpR X (compareOp op) (rop G f)) (ha : PE X a (rd G W A)) (hb : PE X b (rd G W B)) (hm : behindInMarks op b = false) : PE X (.Compare a [op] [b] pos) (rd G W (ac2 f A B)) :=
  (pe_cmpR ho ha hb hm).weakL fun _ _ _ => rd2
theorem run1_of {f : P1} {σ : L2.St} {H : Hp} {Q : VK} (h : rd G W (ac1 f A) σ H Q) : tUn (run1 G f) (rd G W A) σ H Q := by
  obtain ⟨ρ, s, h, F, R, r, sr, wp⟩ := h
  refine step r sr wp fun ρ1 h1 F1 d x H1 x1 r1 q1 wp1 => ?_
  refine ⟨ρ1, h1, F1, R, d, r1, q1, ?_⟩
  cases e3 : f d h1 with
  | none => rw [e3] at wp1; exact wp1
  | some p => rw [e3] at wp1; exact wp1
theorem pe_una {op : UnaryOp} {f : P1} (ho : UnR X (unaryOp op) (run1 G f)) (ha : PE X a (rd G W A)) : PE X (.UnaryOp op a pos) (rd G W (ac1 f A)) :=
  (pe_un ho ha).weakL fun _ _ _ => run1_of
def negP : P1 := fun d h => match d with
  | .int i => some (.int (-i), h)
  | _ => none
theorem ur_neg : UnR X (unaryOp .USub) (run1 G negP) := by
  intro pins s σ H x v Q I rx h
  obtain ⟨ρ, h0, F, R, d, r, q1, wp⟩ := h
  cases d <;> try exact wp.elim
  cases q1
  exact un_neg pins s σ H _ v Q I rx ⟨_, rfl, wp_val r wp (.int _)⟩
theorem pe_ch {op op' : CmpOp} {f g : P2} (ho : OpR X (compareOp op) (rop G f)) (ho' : OpR X (compareOp op') (rop G g)) (ha : PE X a (rd G W A)) (hb : PE X b (rd G W B)) (hc : PE X c (rd G W C))
    (hm : behindInMarks op' c = false) : PE X (.Compare a [op, op'] [b, c] pos) (rd G W (acCh f g A B C)) :=
  (pe_chain ho ho' ha hb hc hm).weakL fun σ H Q h => by
    obtain ⟨ρ, s, h, F, R, r, sr, wp⟩ := h
    refine step r sr wp fun ρ1 h1 F1 d x H1 x1 r1 q1 wp1 => ?_
    refine step r1 (sr.mono x1) wp1 fun ρ2 h2 F2 e y H2 x2 r2 q2 wp2 => ?_
    refine ⟨ρ2, h2, F2, R, d, e, r2, q1.mono x2, q2, ?_⟩
    cases e3 : f d e h2 with
    | none => rw [e3] at wp2; exact wp2
    | some p =>
      obtain ⟨z, h3⟩ := p
      rw [e3] at wp2
      intro ρ3 F3 v3 H3 x3 r3 q3
      have sr3 := (sr.mono x1).mono (x2.trans x3)
      cases z <;> try exact wp2.elim
      rename_i k
      cases q3
      refine ⟨k, rfl, ?_⟩
      cases k with
      | false =>
        rw [if_neg (by decide)]
        exact wp2 ρ3 F3 _ H3 x3 r3 (.bl false)
      | true =>
        rw [if_pos rfl]
        refine step r3 sr3 (Wp.rebase x3 wp2) fun ρ4 h4 F4 c' y4 H4 x4 r4 q4 wp4 => ?_
        refine ⟨ρ4, h4, F4, R, e, c', r4, q2.mono (x3.trans x4), q4, ?_⟩
        cases e5 : g e c' h4 with
        | none => rw [e5] at wp4; exact wp4
        | some p => rw [e5] at wp4; exact wp4
theorem pe_andD {rest : List Expr} (ha : PE X a (rd G W A)) (hb : PE X (.BoolOp .And (b :: rest) pos) (rd G W B)) : PE X (.BoolOp .And (a :: b :: rest) pos) (rd G W (acAnd A B)) :=
  (pe_and ha hb).weakL fun σ H Q h => by
    obtain ⟨ρ, s, h, F, R, r, sr, wp⟩ := h
    refine step r sr wp fun ρ1 h1 F1 d x H1 x1 r1 q1 wp1 => ?_
    cases d <;> try exact wp1.elim
    rename_i k
    cases q1
    refine ⟨k, rfl, ?_⟩
    cases k with
    | false => rw [if_neg (by decide)]; exact wp_val r1 wp1 (.bl false)
    | true => rw [if_pos rfl]; exact ⟨ρ1, s, h1, F1, R, r1, sr.mono x1, wp1⟩
theorem pe_orD {rest : List Expr} (ha : PE X a (rd G W A)) (hb : PE X (.BoolOp .Or (b :: rest) pos) (rd G W B)) : PE X (.BoolOp .Or (a :: b :: rest) pos) (rd G W (acOr A B)) :=
  (pe_or ha hb).weakL fun σ H Q h => by
    obtain ⟨ρ, s, h, F, R, r, sr, wp⟩ := h
    refine step r sr wp fun ρ1 h1 F1 d x H1 x1 r1 q1 wp1 => ?_
    cases d <;> try exact wp1.elim
    rename_i k
    cases q1
    refine ⟨k, rfl, ?_⟩
    cases k with
    | true => rw [if_pos rfl]; exact wp_val r1 wp1 (.bl true)
    | false => rw [if_neg (by decide)]; exact ⟨ρ1, s, h1, F1, R, r1, sr.mono x1, wp1⟩
theorem pe_notD (ha : PE X a (rd G W A)) : PE X (.UnaryOp .Not a pos) (rd G W (acNot A)) :=
  (pe_not ha).weakL fun σ H Q h => by
    obtain ⟨ρ, s, h, F, R, r, sr, wp⟩ := h
    refine step r sr wp fun ρ1 h1 F1 d x H1 x1 r1 q1 wp1 => ?_
    cases d <;> try exact wp1.elim
    rename_i k
    cases q1
    exact ⟨k, rfl, wp_val r1 wp1 (.bl _)⟩
theorem pe_ifD (ht : PT X c (rdB G W T)) (ha : PE X a (rd G W A)) (hb : PE X b (rd G W B)) : PE X (.IfExp c a b pos) (rd G W (acIf T A B)) :=
  (pe_ifExp ht ha hb).weakL fun σ H Q h => by
    obtain ⟨ρ, s, h, F, R, r, sr, wp⟩ := h
    refine step (L := LB) r sr wp fun ρ1 h1 F1 k k' H1 x1 r1 q1 wp1 => ?_
    have q1 : k = k' := q1
    subst q1
    cases k with
    | true => rw [if_pos rfl] at wp1 ⊢; exact ⟨ρ1, s, h1, F1, R, r1, sr.mono x1, wp1⟩
    | false => rw [if_neg (by decide)] at wp1 ⊢; exact ⟨ρ1, s, h1, F1, R, r1, sr.mono x1, wp1⟩
theorem tru_of {ρ : AM} {h : List O} {F R H : Hp} {d : D} {v : V} {k : Bool} (r : Rel G ρ h F R H) (e : truD h d = some k) (q : RD G ρ h.length F d v) : TruV G.K v H k ∨ ∃ a kvs, v = .ref a ∧ Rd H a (.dK kvs) ∧ k = !kvs.isEmpty := by
  have seq : ∀ {xs}, seqOf h d = some xs → truD h d = some (!xs.isEmpty) → TruV G.K v H k := fun {xs} e1 e2 => by
    rw [e] at e2
    cases e2
    obtain ⟨a, vs, ev, hs, rs⟩ := seq_sq r e1 q
    subst ev
    have el : xs.isEmpty = vs.isEmpty := by
      cases rs <;> rfl
    rcases hs with hs | hs
    · exact .inl ⟨vs, hs, by rw [el]⟩
    · exact .inr (.inl ⟨vs, hs, by rw [el]⟩)
  have dict : ∀ {kvs}, dicOf h d = some kvs → truD h d = some (!kvs.isEmpty) → ∃ a kvs, v = .ref a ∧ Rd H a (.dK kvs) ∧ k = !kvs.isEmpty := fun {kvs} e1 e2 => by
    rw [e] at e2
    cases e2
    obtain ⟨a, vs, ev, hs, rs⟩ := dic_rd r e1 q
    subst ev
    have el : kvs.isEmpty = vs.isEmpty := by
      cases rs <;> rfl
    exact ⟨a, vs, rfl, hs, by rw [el]⟩
  have gen : truD h d = (match seqOf h d with | some xs => some (!xs.isEmpty) | none => match dicOf h d with | some kvs => some (!kvs.isEmpty) | none => none) → TruV G.K v H k ∨ ∃ a kvs, v = .ref a ∧ Rd H a (.dK kvs) ∧ k = !kvs.isEmpty := fun e0 => by
    cases e1 : seqOf h d with
    | some xs => exact .inl (seq e1 (by rw [e0, e1]))
    | none =>
      cases e2 : dicOf h d with
      | some kvs => exact .inr (dict e2 (by rw [e0, e1, e2]))
      | none => rw [e0, e1, e2] at e; cases e
  cases d with
  | non => cases q; simp [truD] at e; subst e; exact .inl rfl
  | bl b => cases q; simp [truD] at e; subst e; exact .inl rfl
  | int b => cases q; simp [truD] at e; subst e; exact .inl rfl
  | str b =>
    cases q
    simp only [truD] at e
    split at e
    · rename_i hz
      cases e
      exact .inl ⟨hz, rfl⟩
    · cases e
  | _ => exact gen rfl
theorem pt_v (hK : X.K = G.K) (ha : PE X a (rd G W A)) (he : ∀ whole, isTrue a X.env whole = (do let v ← whole; standAt a.pos; holding [v] (truthy v))) : PT X a (rdB G W (tbV A)) := by
  refine ⟨fun pins s σ H Q I hq => ?_⟩
  have hr : rd G W A σ H fun x H1 => ∃ k, (TruV G.K x H1 k ∨ ∃ a kvs, x = .ref a ∧ Rd H1 a (.dK kvs) ∧ k = !kvs.isEmpty) ∧ Q k H1 := by
    obtain ⟨ρ, s, h, F, R, r, sr, wp⟩ := hq
    refine step r sr wp fun ρ1 h1 F1 d x H1 x1 r1 q1 wp1 => ?_
    cases e : truD h1 d with
    | none => rw [e] at wp1; exact wp1.elim
    | some k =>
      rw [e] at wp1
      exact ⟨k, tru_of r1 e q1, wp1 ρ1 F1 k H1 (Ext.refl _ _ _) r1 rfl⟩
  refine isTrue_plain (thn (ha.run pins s σ H _ I hr) fun v s1 ⟨x, H1, I1, r1, k, tv, q1⟩ => ?_) (he _)
  rcases tv with tv | ⟨p, kvs, ex, hd, ek⟩
  · exact tru_ok pins s1 σ H1 x v Q I1 r1 ⟨k, by rw [hK]; exact tv, q1⟩
  · subst ex ek
    obtain rfl : v = Value.ref p := r1
    exact d_truth I1 hd fun s' I' => ⟨H1, I', q1⟩
theorem tst_of {σ : L2.St} {H : Hp} {Q : Bool → Hp → Prop} (h : rdB G W (tbV A) σ H Q) (hb : ∀ s h d h1, A s h = .ok d h1 → ∃ k, d = .bl k) : tTest (rd G W A) σ H Q := by
  obtain ⟨ρ, s, h, F, R, r, sr, wp⟩ := h
  refine ⟨ρ, s, h, F, R, r, sr, ?_⟩
  have wp : Wp G LB W R ρ h.length F ((A s h).bind fun d h1 => match truD h1 d with | some b => .ok b h1 | none => .no) σ Q := wp
  cases e : A s h with
  | ok d h1 =>
    rw [e] at wp
    obtain ⟨k, ek⟩ := hb s h d h1 e
    subst ek
    intro ρ1 F1 v H1 x1 r1 q1
    cases q1
    exact ⟨k, rfl, wp ρ1 F1 k H1 x1 r1 rfl⟩
  | ex c fs h1 => rw [e] at wp; exact wp
  | no => rw [e] at wp; exact wp
theorem weak_test {A : Ac} {t : TE} {σ : L2.St} {H : Hp} {Q : Bool → Hp → Prop} (i : ∀ σ H Q, rd G W A σ H Q → t σ H Q) (h : tTest (rd G W A) σ H Q) : tTest t σ H Q := i _ _ _ h
theorem pt_cmp2 {op : CmpOp} {f : P2} (ho : OpR X (compareOp op) (rop G f)) (ha : PE X a (rd G W A)) (hb : PE X b (rd G W B)) (hm : behindInMarks op b = false) (hf : ∀ d e h z h', f d e h = some (z, h') → ∃ k, z = .bl k) :
    PT X (.Compare a [op] [b] pos) (rdB G W (tbV (ac2 f A B))) :=
  (pt_cmpR ho ha hb hm).weakL fun σ H Q h => by
    refine weak_test (fun _ _ _ => rd2) (tst_of h fun s h d h1 e => ?_)
    unfold ac2 at e
    cases e1 : A s h with
    | ok d1 k1 =>
      rw [e1] at e
      simp only [Res.bind] at e
      cases e2 : B s k1 with
      | ok d2 k2 =>
        rw [e2] at e
        simp only [Res.bind] at e
        cases e3 : f d1 d2 k2 with
        | none => rw [e3] at e; cases e
        | some p =>
          obtain ⟨z, h'⟩ := p
          rw [e3] at e
          cases e
          exact hf _ _ _ _ _ e3
      | ex _ _ _ => rw [e2] at e; cases e
      | no => rw [e2] at e; cases e
    | ex _ _ _ => rw [e1] at e; cases e
    | no => rw [e1] at e; cases e
theorem bD_bl {o : Option Bool} {h : List O} {z : D} {h' : List O} (e : bD o h = some (z, h')) : ∃ k, z = .bl k := by
  cases o with
  | none => cases e
  | some b => simp [bD] at e; exact ⟨b, e.1.symm⟩
theorem pt_ch {op op' : CmpOp} {f g : P2} (ho : OpR X (compareOp op) (rop G f)) (ho' : OpR X (compareOp op') (rop G g)) (ha : PE X a (rd G W A)) (hb : PE X b (rd G W B)) (hc : PE X c (rd G W C))
    (hm : behindInMarks op' c = false) (hg : ∀ d e h z h', g d e h = some (z, h') → ∃ k, z = .bl k) : PT X (.Compare a [op, op'] [b, c] pos) (rdB G W (tbV (acCh f g A B C))) :=
  (pt_chain ho ho' ha hb hc hm).weakL fun σ H Q h => by
    refine weak_test (A := acCh f g A B C) (t := tChain (rop G f) (rop G g) (rd G W A) (rd G W B) (rd G W C)) (fun σ H Q h => ?_) (tst_of h fun s h d h1 e => ?_)
    · obtain ⟨ρ, s, h, F, R, r, sr, wp⟩ := h
      refine step r sr wp fun ρ1 h1 F1 d x H1 x1 r1 q1 wp1 => ?_
      refine step r1 (sr.mono x1) wp1 fun ρ2 h2 F2 e y H2 x2 r2 q2 wp2 => ?_
      refine ⟨ρ2, h2, F2, R, d, e, r2, q1.mono x2, q2, ?_⟩
      cases e3 : f d e h2 with
      | none => rw [e3] at wp2; exact wp2
      | some p =>
        obtain ⟨z, h3⟩ := p
        rw [e3] at wp2
        intro ρ3 F3 v3 H3 x3 r3 q3
        have sr3 := (sr.mono x1).mono (x2.trans x3)
        cases z <;> try exact wp2.elim
        rename_i k
        cases q3
        refine ⟨k, rfl, ?_⟩
        cases k with
        | false =>
          rw [if_neg (by decide)]
          exact wp2 ρ3 F3 _ H3 x3 r3 (.bl false)
        | true =>
          rw [if_pos rfl]
          refine step r3 sr3 (Wp.rebase x3 wp2) fun ρ4 h4 F4 c' y4 H4 x4 r4 q4 wp4 => ?_
          refine ⟨ρ4, h4, F4, R, e, c', r4, q2.mono (x3.trans x4), q4, ?_⟩
          cases e5 : g e c' h4 with
          | none => rw [e5] at wp4; exact wp4
          | some p => rw [e5] at wp4; exact wp4
    · unfold acCh at e
      cases e1 : A s h with
      | ok d1 k1 =>
        rw [e1] at e
        simp only [Res.bind] at e
        cases e2 : B s k1 with
        | ok d2 k2 =>
          rw [e2] at e
          simp only [Res.bind] at e
          cases e3 : f d1 d2 k2 with
          | none => rw [e3] at e; cases e
          | some p =>
            obtain ⟨z, h'⟩ := p
            rw [e3] at e
            simp only [Res.of, Res.bind] at e
            cases z <;> try cases e
            rename_i k
            cases k with
            | false => cases e; exact ⟨false, rfl⟩
            | true =>
              simp only at e
              cases e4 : C s h' with
              | ok d4 k4 =>
                rw [e4] at e
                simp only [Res.bind] at e
                cases e5 : g d2 d4 k4 with
                | none => rw [e5] at e; cases e
                | some p =>
                  obtain ⟨z, h''⟩ := p
                  rw [e5] at e
                  cases e
                  exact hg _ _ _ _ _ e5
              | ex _ _ _ => rw [e4] at e; cases e
              | no => rw [e4] at e; cases e
        | ex _ _ _ => rw [e2] at e; cases e
        | no => rw [e2] at e; cases e
      | ex _ _ _ => rw [e1] at e; cases e
      | no => rw [e1] at e; cases e
theorem pt_notD (ha : PT X a (rdB G W T)) : PT X (.UnaryOp .Not a pos) (rdB G W (tbNot T)) :=
  (pt_not ha).weakL fun σ H Q h => by
    obtain ⟨ρ, s, h, F, R, r, sr, wp⟩ := h
    refine step (L := LB) r sr wp fun ρ1 h1 F1 k k' H1 x1 r1 q1 wp1 => ?_
    have q1 : k = k' := q1
    subst q1
    exact wp1 ρ1 F1 _ H1 (Ext.refl _ _ _) r1 rfl
theorem PW.weakD {e : Expr} {t t' : TT} (h : PW X e t) (i : ∀ σ H Q, t' σ H Q → t σ H Q) : PW X e t' := ⟨fun whole pins s σ H Q I q => h.run whole pins s σ H Q I (i σ H Q q)⟩
theorem pw_andD {rest : List Expr} (ha : PT X a (rdB G W T)) (hb : PW X (.BoolOp .And (b :: rest) pos) (rdB G W U)) : PW X (.BoolOp .And (a :: b :: rest) pos) (rdB G W (tbAnd T U)) :=
  PW.weakD (pw_and ha hb) fun σ H Q h => by
    obtain ⟨ρ, s, h, F, R, r, sr, wp⟩ := h
    refine step (L := LB) r sr wp fun ρ1 h1 F1 k k' H1 x1 r1 q1 wp1 => ?_
    have q1 : k = k' := q1
    subst q1
    cases k with
    | true => rw [if_pos rfl] at wp1 ⊢; exact ⟨ρ1, s, h1, F1, R, r1, sr.mono x1, wp1⟩
    | false => rw [if_neg (by decide)] at wp1 ⊢; exact wp1 ρ1 F1 _ H1 (Ext.refl _ _ _) r1 rfl
theorem pw_orD {rest : List Expr} (ha : PT X a (rdB G W T)) (hb : PW X (.BoolOp .Or (b :: rest) pos) (rdB G W U)) : PW X (.BoolOp .Or (a :: b :: rest) pos) (rdB G W (tbOr T U)) :=
  PW.weakD (pw_or ha hb) fun σ H Q h => by
    obtain ⟨ρ, s, h, F, R, r, sr, wp⟩ := h
    refine step (L := LB) r sr wp fun ρ1 h1 F1 k k' H1 x1 r1 q1 wp1 => ?_
    have q1 : k = k' := q1
    subst q1
    cases k with
    | false => rw [if_neg (by decide)] at wp1 ⊢; exact ⟨ρ1, s, h1, F1, R, r1, sr.mono x1, wp1⟩
    | true => rw [if_pos rfl] at wp1 ⊢; exact wp1 ρ1 F1 _ H1 (Ext.refl _ _ _) r1 rfl
variable {es : List Expr} {L : AcL}
theorem pa_nilD : PA X [] (rdA G W alNil) := pa_nil.weakL fun σ H Q ⟨ρ, s, h, F, R, r, sr, wp⟩ => wp ρ F _ H (Ext.refl _ _ _) r .nil
theorem pa_consD (ha : PE X a (rd G W A)) (hr : PA X es (rdA G W L)) (hs : starEach (a :: es) X.env = (false, eval a X.env) :: starEach es X.env) : PA X (a :: es) (rdA G W (alCons A L)) :=
  (pa_cons ha hr hs).weakL fun σ H Q h => by
    obtain ⟨ρ, s, h, F, R, r, sr, wp⟩ := h
    refine step (L := LD G) r sr wp fun ρ1 h1 F1 d x H1 x1 r1 q1 wp1 => ?_
    refine step (L := LDs G) r1 (sr.mono x1) wp1 fun ρ2 h2 F2 ds xs H2 x2 r2 q2 wp2 => ?_
    exact wp2 ρ2 F2 _ H2 (Ext.refl _ _ _) r2 (.cons (q1.mono x2) q2)
theorem pa_starD {p : Pos} (hK : X.K = G.K) (ha : PE X a (rd G W A)) (hr : PA X es (rdA G W L)) : PA X (.Starred a p :: es) (rdA G W (alStar A L)) :=
  (StX.pa_star ha hr rfl).weakL fun σ H Q h => by
    obtain ⟨ρ, s, h, F, R, r, sr, wp⟩ := h
    refine step (L := LD G) r sr wp fun ρ1 h1 F1 d x H1 x1 r1 q1 wp1 => ?_
    cases e : seqOf h1 d with
    | none => rw [e] at wp1; exact wp1.elim
    | some ys =>
      rw [e] at wp1
      obtain ⟨p, vs, ev, hs, rs⟩ := seq_sq r1 e q1
      refine ⟨p, vs, ev, by rw [hK]; exact hs.symm, ?_⟩
      refine step (L := LDs G) r1 (sr.mono x1) wp1 fun ρ2 h2 F2 ds xs H2 x2 r2 q2 wp2 => ?_
      exact wp2 ρ2 F2 _ H2 (Ext.refl _ _ _) r2 ((rs.mono x2).append q2)
theorem pe_tupD {x1} (h : PA X es (rdA G W L)) : PE X (.Tuple es x1 pos) (rd G W (acN tupP L)) := by
  refine ⟨fun pins s σ H Q I hq => ?_⟩
  obtain ⟨ρ, s0, h0, F, R, r, sr, wp⟩ := hq
  have hr : rdA G W L σ H fun vs H1 => ∃ ρ1 h1 F1 ds, Rel G ρ1 h1 F1 R H1 ∧ RDs G ρ1 h1.length F1 ds vs ∧ Wp G (LD G) W R ρ1 h1.length F1 (Res.of (tupP ds h1)) σ Q :=
    step (L := LDs G) r sr wp fun ρ1 h1 F1 ds vs H1 x1 r1 q1 wp1 => ⟨ρ1, h1, F1, ds, r1, q1, wp1⟩
  refine wpAny_Tuple_spliced (thn (h.run pos pins s σ H _ I hr) fun us s1 ⟨vs, H1, I1, rv, ρ1, h1, F1, ds, r1, q1, wp1⟩ => ?_)
  unfold tupP at wp1
  by_cases hz : ds.length ≤ sizeLine
  · rw [if_pos hz] at wp1
    have hz' : vs.length ≤ sizeLine := by rw [← q1.length]; exact hz
    refine ⟨by rw [← rv.length]; exact hz', ?_⟩
    refine ⟨.ref s1.heap.objs.size, _, lay_tup (t' := s1.toks) I1 rv hz', rfl, ?_⟩
    exact wp_frz r1 wp1 (I1.hok.fresh (Nat.le_refl _)) fun F' x hF => rd_newTup q1 rfl x hF
  · rw [if_neg hz] at wp1; exact wp1.elim
theorem pe_lstD (lv : Bool) (h : PA X es (rdA G W L)) : PE X (.List es pos) (rd G W (acN (lstP lv) L)) :=
  (pe_lst h).weakL fun σ H Q hq => by
    obtain ⟨ρ, s0, h0, F, R, r, sr, wp⟩ := hq
    refine step (L := LDs G) r sr wp fun ρ1 h1 F1 ds vs H1 x1 r1 q1 wp1 => ?_
    unfold lstP at wp1
    by_cases hz : ds.length ≤ sizeLine
    · rw [if_pos hz] at wp1
      exact ⟨by rw [← q1.length]; exact hz, fun p hp => wp_mkL r1 wp1 hp q1⟩
    · rw [if_neg hz] at wp1; exact wp1.elim
theorem runN_of {f : PN} {σ : L2.St} {H : Hp} {Q : VK} (h : rd G W (acN f L) σ H Q) : tCB (runN G f) (rdA G W L) σ H Q := by
  obtain ⟨ρ, s, h, F, R, r, sr, wp⟩ := h
  refine step (L := LDs G) r sr wp fun ρ1 h1 F1 d x H1 x1 r1 q1 wp1 => ?_
  refine ⟨ρ1, h1, F1, R, d, r1, q1, ?_⟩
  cases e3 : f d h1 with
  | none => rw [e3] at wp1; exact wp1
  | some p => rw [e3] at wp1; exact wp1
theorem pe_callBD {x : Str} {p : Pos} {id : String} {f : PN} (hc : CallR X (.builtin id) (runN G f)) (hg : Gl X x) (hm : X.mg x = none) (hv : bootBuiltins x = some (.builtin id)) (ha : PA X (a :: es) (rdA G W L)) (hn : x ≠ "__name__")
    (hdb : (x == ("__debug__" : Str)) = false) (hs : starEach (a :: es) X.env = (false, eval a X.env) :: starEach es X.env) (hpl : (backTo pos (starEach es X.env)).any (·.1) = false) : PE X (.Call (.Name x p) (a :: es) [] pos) (rd G W (acN f L)) :=
  (pe_callB hc hg hm hv ha hn hdb hs hpl).weakL fun _ _ _ => runN_of
theorem pe_callTyD {x : Str} {p : Pos} {T : String} {f : PN} (hc : CallR X (.type T) (runN G f)) (hg : Gl X x) (hm : X.mg x = none) (hv : bootBuiltins x = some (.type T)) (ha : PA X (a :: es) (rdA G W L)) (hn : x ≠ "__name__")
    (hdb : (x == ("__debug__" : Str)) = false) (hs : starEach (a :: es) X.env = (false, eval a X.env) :: starEach es X.env) (hpl : (backTo pos (starEach es X.env)).any (·.1) = false) : PE X (.Call (.Name x p) (a :: es) [] pos) (rd G W (acN f L)) :=
  (pe_callTy hc hg hm hv ha hn hdb hs hpl).weakL fun _ _ _ => runN_of
end
end Lo
namespace Lo
open PySem PySem.Spec PyProof.Rows L2
def insB {α : Type} (lt : α → α → Bool) (x : α) : List α → List α
  | [] => [x]
  | y :: r => if lt y x = true then y :: insB lt x r else x :: y :: r
def sortB {α : Type} (lt : α → α → Bool) : List α → List α
  | [] => []
  | x :: r => insB lt x (sortB lt r)
theorem insB_perm {α : Type} (lt : α → α → Bool) (x : α) : ∀ l : List α, (insB lt x l).Perm (x :: l)
  | [] => List.Perm.refl _
  | y :: r => by
    unfold insB
    split
    · exact ((insB_perm lt x r).cons y).trans (List.Perm.swap x y r)
    · exact List.Perm.refl _
theorem sortB_perm {α : Type} (lt : α → α → Bool) : ∀ l : List α, (sortB lt l).Perm l
  | [] => List.Perm.refl _
  | x :: r => (insB_perm lt x _).trans ((sortB_perm lt r).cons x)
theorem insB_sorted {α : Type} {lt : α → α → Bool} (tot : ∀ a b, lt a b = false → lt b a = true ∨ a = b ∨ lt b a = false) (tr : ∀ a b c, lt b a = false → lt c b = false → lt c a = false) (as : ∀ a b, lt a b = true → lt b a = false) (x : α) :
    ∀ l : List α, l.Pairwise (fun a b => lt b a = false) → (insB lt x l).Pairwise (fun a b => lt b a = false)
  | [], _ => by simp [insB]
  | y :: r, h => by
    rw [List.pairwise_cons] at h
    unfold insB
    split
    · rename_i hlt
      rw [List.pairwise_cons]
      refine ⟨fun z hz => ?_, insB_sorted tot tr as x r h.2⟩
      rcases List.mem_cons.mp ((insB_perm lt x r).mem_iff.mp hz) with rfl | hz
      · exact as _ _ hlt
      · exact h.1 z hz
    · rename_i hlt
      have hlt : lt y x = false := by simpa using hlt
      rw [List.pairwise_cons]
      refine ⟨fun z hz => ?_, List.pairwise_cons.mpr h⟩
      rcases List.mem_cons.mp hz with rfl | hz
      · exact hlt
      · exact tr x y z hlt (h.1 z hz)
theorem sortB_sorted {α : Type} {lt : α → α → Bool} (tot : ∀ a b, lt a b = false → lt b a = true ∨ a = b ∨ lt b a = false) (tr : ∀ a b c, lt b a = false → lt c b = false → lt c a = false) (as : ∀ a b, lt a b = true → lt b a = false) :
    ∀ l : List α, (sortB lt l).Pairwise (fun a b => lt b a = false)
  | [] => List.Pairwise.nil
  | x :: r => insB_sorted tot tr as x _ (sortB_sorted tot tr as r)
def ltI (a b : Int) : Bool := decide (a < b)
def ltS (a b : Str) : Bool := decide (a.cps.toList < b.cps.toList)
def sortI (l : List Int) : List Int := sortB ltI l
def sortS (l : List Str) : List Str := sortB ltS l
theorem sortI_eq {l l' : List Int} (p : l'.Perm l) (s : l'.Pairwise (· ≤ ·)) : l' = sortI l := by
  refine PySem.W.ksm_same (p.trans (sortB_perm _ l).symm) s ?_
  have h := sortB_sorted (lt := ltI) (fun a b h => by simp [ltI] at *; omega) (fun a b c h1 h2 => by simp [ltI] at *; omega) (fun a b h => by simp [ltI] at *; omega) l
  exact h.imp fun {a b} q => by simp [ltI] at q; exact q
theorem lex_total (a b : List Nat) : a < b ∨ a = b ∨ b < a := by
  rcases Decidable.em (a < b) with h | h
  · exact .inl h
  · rcases Decidable.em (b < a) with h2 | h2
    · exact .inr (.inr h2)
    · exact .inr (.inl (List.le_antisymm (List.not_lt.mp h2) (List.not_lt.mp h)))
theorem str_ext {a b : Str} (h : a.cps.toList = b.cps.toList) : a = b := by
  obtain ⟨x⟩ := a
  obtain ⟨y⟩ := b
  congr 1
  exact Array.toList_inj.mp h
theorem ltS_tr (a b c : Str) (h1 : ltS b a = false) (h2 : ltS c b = false) : ltS c a = false := by
  simp only [ltS, decide_eq_false_iff_not, List.not_lt] at *
  exact List.le_trans h1 h2
theorem rising_pw : ∀ (x : Str) (l : List Str), risingS x l = true → (x :: l).Pairwise (fun a b => ltS b a = false)
  | x, [], _ => by simp
  | x, y :: r, h => by
    simp only [risingS, Bool.and_eq_true, Bool.not_eq_true'] at h
    have ih := rising_pw y r h.2
    have h1 : ltS y x = false := by rw [← h.1, ltCps_eq]; rfl
    rw [List.pairwise_cons]
    refine ⟨fun z hz => ?_, ih⟩
    rcases List.mem_cons.mp hz with rfl | hz
    · exact h1
    · exact ltS_tr x y z h1 ((List.pairwise_cons.mp ih).1 z hz)
theorem sortS_eq {l l' : List Str} (p : l'.Perm l) (s : sortedS l' = true) : l' = sortS l := by
  have s' : l'.Pairwise (fun a b => ltS b a = false) := by
    cases l' with
    | nil => exact List.Pairwise.nil
    | cons x r => exact rising_pw x r s
  have h := sortB_sorted (lt := ltS) (fun a b h => by
      rcases lex_total a.cps.toList b.cps.toList with q | q | q
      · simp [ltS, q] at h
      · exact .inr (.inl (str_ext q))
      · exact .inl (by simp [ltS, q])) ltS_tr (fun a b h => by
      simp only [ltS, decide_eq_true_eq, decide_eq_false_iff_not] at *
      exact fun q => List.lt_asymm h q) l
  refine List.Perm.eq_of_pairwise (fun a b _ _ h1 h2 => ?_) s' h (p.trans (sortB_perm _ l).symm)
  simp only [ltS, decide_eq_false_iff_not, List.not_lt] at h1 h2
  exact str_ext (List.le_antisymm h1 h2)
def ints? : List D → Option (List Int)
  | [] => some []
  | .int i :: r => (ints? r).map (i :: ·)
  | _ :: _ => none
def strs? : List D → Option (List Str)
  | [] => some []
  | .str i :: r => (strs? r).map (i :: ·)
  | _ :: _ => none
def bools? : List D → Option (List Bool)
  | [] => some []
  | .bl i :: r => (bools? r).map (i :: ·)
  | _ :: _ => none
section
variable {G : GI} {ρ : AM} {m : Nat} {F : Hp}
theorem ints_rd : ∀ {ds : List D} {vs : List V} {ns : List Int}, ints? ds = some ns → RDs G ρ m F ds vs → vs = ns.map V.int
  | [], _, ns, e, q => by cases q; simp [ints?] at e; subst e; rfl
  | d :: r, _, ns, e, q => by
    cases q with
    | cons a b =>
      cases d <;> simp [ints?] at e
      obtain ⟨ms, e1, e2⟩ := e
      subst e2
      cases a
      rw [ints_rd e1 b]; rfl
theorem strs_rd : ∀ {ds : List D} {vs : List V} {ns : List Str}, strs? ds = some ns → RDs G ρ m F ds vs → vs = ns.map V.str
  | [], _, ns, e, q => by cases q; simp [strs?] at e; subst e; rfl
  | d :: r, _, ns, e, q => by
    cases q with
    | cons a b =>
      cases d <;> simp [strs?] at e
      obtain ⟨ms, e1, e2⟩ := e
      subst e2
      cases a
      rw [strs_rd e1 b]; rfl
theorem bools_rd : ∀ {ds : List D} {vs : List V} {ns : List Bool}, bools? ds = some ns → RDs G ρ m F ds vs → vs = ns.map V.bl
  | [], _, ns, e, q => by cases q; simp [bools?] at e; subst e; rfl
  | d :: r, _, ns, e, q => by
    cases q with
    | cons a b =>
      cases d <;> simp [bools?] at e
      obtain ⟨ms, e1, e2⟩ := e
      subst e2
      cases a
      rw [bools_rd e1 b]; rfl
theorem rd_ints (ns : List Int) : RDs G ρ m F (ns.map D.int) (ns.map V.int) := by
  induction ns with
  | nil => exact .nil
  | cons n r ih => exact .cons (.int n) ih
theorem rd_strs (ns : List Str) : RDs G ρ m F (ns.map D.str) (ns.map V.str) := by
  induction ns with
  | nil => exact .nil
  | cons n r ih => exact .cons (.str n) ih
theorem rds1 {d : D} {vs : List V} (q : RDs G ρ m F [d] vs) : ∃ v, vs = [v] ∧ RD G ρ m F d v := by
  cases q with | cons a b => cases b; exact ⟨_, rfl, a⟩
theorem rds2 {d e : D} {vs : List V} (q : RDs G ρ m F [d, e] vs) : ∃ v u, vs = [v, u] ∧ RD G ρ m F d v ∧ RD G ρ m F e u := by
  cases q with | cons a b => cases b with | cons c b => cases b; exact ⟨_, _, rfl, a, c⟩
end
def one (f : P1) : PN := fun ds h => match ds with
  | [d] => f d h
  | _ => none
def lenD (h : List O) : D → Option Int
  | .str z => if z.length ≤ sizeLine then some z.length else none
  | d => match seqOf h d with
    | some xs => some xs.length
    | none => (dicOf h d).map fun kvs => (kvs.length : Int)
def lenP : PN := one fun d h => (lenD h d).map fun n => (.int n, h)
def intP1 : PN := one fun d h => match d with
  | .int i => some (.int i, h)
  | .bl b => some (.int (if b then 1 else 0), h)
  | .str a => if a.length ≤ 640 then (PySem.intText? a).map fun n => (.int n, h) else none
  | _ => none
def strP1 : PN := one fun d h => match d with
  | .int i => if i.natAbs.log2 < 1920 then some (.str (toString i), h) else none
  | _ => none
def tupleP : PN := one fun d h => match d with
  | .tup xs => some (.tup xs, h)
  | d => (lstOf h d).map fun xs => (.tup xs, h)
def listP (lv : Bool) : PN := one fun d h => match seqOf h d with
  | some xs => some (mkL lv xs h)
  | none => (dicOf h d).map fun kvs => mkL lv (kvs.map fun kv => dK kv.1) h
def dictP (lv : Bool) : PN := one fun d h => (dicOf h d).map fun kvs => mkD lv kvs h
def sortedD (h : List O) (d : D) : Option (List D) :=
  match lstOf h d with
  | some xs => match ints? xs with
    | some ns => some ((sortI ns).map D.int)
    | none => match strs? xs with
      | some ss => if ss.length < 64 then some ((sortS ss).map D.str) else none
      | none => none
  | none => match dicOf h d with
    | some kvs => match strs? (kvs.map fun kv => dK kv.1) with
      | some ss => if ss.length < 64 then some ((sortS ss).map D.str) else none
      | none => none
    | none => none
def sortedP (lv : Bool) : PN := one fun d h => (sortedD h d).map fun xs => mkL lv xs h
def allP : PN := one fun d h => match lstOf h d with
  | some xs => (bools? xs).map fun bs => (.bl (bs.all id), h)
  | none => none
def anyP : PN := one fun d h => match lstOf h d with
  | some xs => (bools? xs).map fun bs => (.bl (bs.any id), h)
  | none => none
def sumP : PN := one fun d h => match lstOf h d with
  | some xs => (ints? xs).map fun bs => (.int bs.sum, h)
  | none => none
def maxI : List Int → Int
  | [] => 0
  | [x] => x
  | x :: r => max x (maxI r)
def minI : List Int → Int
  | [] => 0
  | [x] => x
  | x :: r => min x (minI r)
def maxP : PN := fun ds h => match ds with
  | [.int i, .int j] => some (.int (if j > i then j else i), h)
  | [d] => match lstOf h d with
    | some xs => match ints? xs with
      | some (n :: ns) => some (.int (maxI (n :: ns)), h)
      | _ => none
    | none => none
  | _ => none
def minP : PN := fun ds h => match ds with
  | [.int i, .int j] => some (.int (if j < i then j else i), h)
  | [d] => match lstOf h d with
    | some xs => match ints? xs with
      | some (n :: ns) => some (.int (minI (n :: ns)), h)
      | _ => none
    | none => none
  | _ => none
def absP : PN := one fun d h => match d with
  | .int i => some (.int (if i < 0 then -i else i), h)
  | _ => none
def tyD (h : List O) : D → Option String
  | .non => some "NoneType"
  | .bl _ => some "bool"
  | .int _ => some "int"
  | .str _ => some "str"
  | .tup _ => some "tuple"
  | d => match lstW h d with
    | some _ => some "list"
    | none => none
def isiP : PN := fun ds h => match ds with
  | [d, .ty c] => match tyD h d with
    | some t => (kitB t c).map fun b => (.bl b, h)
    | none => none
  | _ => none
theorem maxI_mem : ∀ (n : Int) (ns : List Int), maxI (n :: ns) ∈ n :: ns ∧ ∀ y ∈ n :: ns, y ≤ maxI (n :: ns)
  | n, [] => by simp [maxI]
  | n, m :: r => by
    obtain ⟨h1, h2⟩ := maxI_mem m r
    simp only [maxI]
    refine ⟨?_, fun y hy => ?_⟩
    · rcases Int.le_total n (maxI (m :: r)) with h | h
      · rw [Int.max_eq_right h]; exact List.mem_cons_of_mem _ h1
      · rw [Int.max_eq_left h]; exact List.mem_cons_self
    · rcases List.mem_cons.mp hy with rfl | hy
      · exact Int.le_max_left _ _
      · exact Int.le_trans (h2 y hy) (Int.le_max_right _ _)
theorem minI_mem : ∀ (n : Int) (ns : List Int), minI (n :: ns) ∈ n :: ns ∧ ∀ y ∈ n :: ns, minI (n :: ns) ≤ y
  | n, [] => by simp [minI]
  | n, m :: r => by
    obtain ⟨h1, h2⟩ := minI_mem m r
    simp only [minI]
    refine ⟨?_, fun y hy => ?_⟩
    · rcases Int.le_total n (minI (m :: r)) with h | h
      · rw [Int.min_eq_left h]; exact List.mem_cons_self
      · rw [Int.min_eq_right h]; exact List.mem_cons_of_mem _ h1
    · rcases List.mem_cons.mp hy with rfl | hy
      · exact Int.min_le_left _ _
      · exact Int.le_trans (Int.min_le_right _ _) (h2 y hy)
section
variable {X : Cx} {G : GI}
theorem cr_one {f : P1} {u0 : Value} (h : ∀ (pins : List (Addr × Obj)) (s : Shared) (σ : L2.St) (H : Hp) (v : V) (u : Value) (Q : VK) (ρ : AM) (h : List O) (F R : Hp) (d : D), Inv X pins σ H s → RelV v u → Rel G ρ h F R H → RD G ρ h.length F d v →
      Wp G (LD G) W0 R ρ h.length F (Res.of (f d h)) [] Q → wpAny (model X.prog X.w) X.A (call u0 [u]) (EP X pins σ Q) X.xe s) : CallR X u0 (runN G (one f)) := by
  intro pins s σ H xs us Q I rx hq
  obtain ⟨ρ, h0, F, R, ds, r, q, wp⟩ := hq
  match ds, q, wp with
  | [], q, wp => exact wp.elim
  | [d], q, wp =>
    obtain ⟨v, rfl, q1⟩ := rds1 q
    obtain ⟨u, rfl, ru⟩ := vals1 rx
    exact h pins s σ H v u Q ρ h0 F R d I ru r q1 wp
  | _ :: _ :: _, q, wp => exact wp.elim
theorem cr_len (hK : X.K = G.K) : CallR X (.builtin "len") (runN G lenP) := by
  refine cr_one fun pins s σ H v u Q ρ h F R d I ru r q wp => ?_
  cases e : lenD h d with
  | none => rw [e] at wp; exact wp.elim
  | some n =>
    rw [e] at wp
    have q0 : Q (.int n) H := wp_val r wp (.int n)
    have gen : (match seqOf h d with | some xs => some (xs.length : Int) | none => (dicOf h d).map fun kvs => (kvs.length : Int)) = some n → wpAny (model X.prog X.w) X.A (call (.builtin "len") [u]) (EP X pins σ Q) X.xe s := fun e => by
      cases e1 : seqOf h d with
      | some xs =>
        rw [e1] at e
        cases e
        obtain ⟨a, vs, ev, hs, rs⟩ := seq_sq r e1 q
        subst ev
        refine call_len_seq pins s σ H [.ref a] [u] Q I (.cons ru .nil) ⟨a, vs, rfl, by rw [hK]; exact hs, ?_⟩
        rw [← rs.length]; exact q0
      | none =>
        rw [e1] at e
        obtain ⟨kvs, e2, e3⟩ := Option.map_eq_some_iff.mp e
        subst e3
        obtain ⟨a, ks, ev, hs, rs⟩ := dic_rd r e2 q
        subst ev
        obtain rfl : u = Value.ref a := ru
        refine d_len I hs fun t s' I' => ⟨.int ks.length, H, I', ⟨t, rfl⟩, ?_⟩
        rw [← rs.length]; exact q0
    cases d with
    | str z =>
      cases q
      simp only [lenD] at e
      split at e
      · rename_i hz
        cases e
        exact call_len_str pins s σ H [.str z] [u] Q I (.cons ru .nil) ⟨z, rfl, hz, q0⟩
      · cases e
    | _ => exact gen e
theorem cr_int : CallR X (.type "int") (runN G intP1) := by
  refine cr_one fun pins s σ H v u Q ρ h F R d I ru r q wp => ?_
  cases d <;> try exact wp.elim
  · cases q
    exact call_int1 pins s σ H _ [u] Q I (.cons ru .nil) (.inr ⟨_, rfl, wp_val r wp (.int _)⟩)
  · cases q
    exact call_int1 pins s σ H _ [u] Q I (.cons ru .nil) (.inl ⟨_, rfl, wp_val r wp (.int _)⟩)
  · rename_i a
    cases q
    simp only at wp
    by_cases hz : a.length ≤ 640
    · rw [if_pos hz] at wp
      cases e : PySem.intText? a with
      | none => rw [e] at wp; exact wp.elim
      | some n =>
        rw [e] at wp
        exact call_int_str pins s σ H _ [u] Q I (.cons ru .nil) ⟨a, n, rfl, e, hz, wp_val r wp (.int _)⟩
    · rw [if_neg hz] at wp; exact wp.elim
theorem cr_str : CallR X (.type "str") (runN G strP1) := by
  refine cr_one fun pins s σ H v u Q ρ h F R d I ru r q wp => ?_
  cases d <;> try exact wp.elim
  rename_i i
  cases q
  simp only at wp
  by_cases hz : i.natAbs.log2 < 1920
  · rw [if_pos hz] at wp
    exact call_str_int pins s σ H _ [u] Q I (.cons ru .nil) ⟨i, rfl, hz, wp_val r wp (.str _)⟩
  · rw [if_neg hz] at wp; exact wp.elim
theorem cr_tuple (hK : X.K = G.K) : CallR X (.type "tuple") (runN G tupleP) := by
  refine cr_one fun pins s σ H v u Q ρ h F R d I ru r q wp => ?_
  have lists : Wp G (LD G) W0 R ρ h.length F (Res.of ((lstOf h d).map fun xs => (.tup xs, h))) [] Q → wpAny (model X.prog X.w) X.A (call (.type "tuple") [u]) (EP X pins σ Q) X.xe s := fun wp => by
    cases e : lstOf h d with
    | none => rw [e] at wp; exact wp.elim
    | some xs =>
      rw [e] at wp
      obtain ⟨a, vs, ev, hs, rs⟩ := lst_sq r e q
      subst ev
      obtain rfl : u = Value.ref a := ru
      rw [← hK] at hs
      obtain ⟨its, r', pl, hz⟩ := I.list hs
      have hlen := r'.length
      refine call_tuple_list pl.isList (fun h' kp => ?_) (by simp only [List.size_toArray] <;> omega)
      have I1 : Inv X pins σ H { s with heap := h' } := I.kept (t' := s.toks) kp
      refine ⟨.ref h'.objs.size, _, lay_tup (t' := s.toks) I1 r' hz, rfl, ?_⟩
      exact wp_frz r wp (I1.hok.fresh (Nat.le_refl _)) fun F' x hF => rd_newTup rs rfl x hF
  cases d with
  | tup xs =>
    have wp : Wp G (LD G) W0 R ρ h.length F (.ok (.tup xs) h) [] Q := wp
    have q0 := wp_val r wp q
    cases q with
    | tup t1 r1 =>
      rename_i a vs
      obtain rfl : u = Value.ref a := ru
      have T1 : SqT X.K H a vs := by rw [hK]; exact (r.fr.tupAt t1).sq
      obtain ⟨its, r', pl, hz⟩ := I.tuple T1
      exact call_tuple_same pl ⟨.ref a, H, I, rfl, q0⟩
  | _ => exact lists wp
theorem keys_rd {ρ : AM} {m : Nat} {F : Hp} {kvs : List (Key × D)} {ks : List (Key × V)} (q : RDk G ρ m F kvs ks) : RDs G ρ m F (kvs.map fun kv => dK kv.1) (ks.map fun kv => kV kv.1) := by
  have e := q.keys
  clear q
  induction kvs generalizing ks with
  | nil =>
    cases ks with
    | nil => exact .nil
    | cons _ _ => simp at e
  | cons p r ih =>
    cases ks with
    | nil => simp at e
    | cons p' r' =>
      simp only [List.map_cons, List.cons.injEq] at e
      simp only [List.map_cons, e.1]
      exact .cons (dK_rd _) (ih e.2)
theorem cr_list (hK : X.K = G.K) (hc : X.calm = true) (lv : Bool) : CallR X (.type "list") (runN G (listP lv)) := by
  refine cr_one fun pins s σ H v u Q ρ h F R d I ru r q wp => ?_
  cases e : seqOf h d with
  | some xs =>
    rw [e] at wp
    obtain ⟨a, vs, ev, hs, rs⟩ := seq_sq r e q
    subst ev
    exact call_list_of pins s σ H [.ref a] [u] Q I (.cons ru .nil) ⟨a, vs, rfl, by rw [hK]; exact hs, fun l hl => wp_mkL r wp hl rs⟩
  | none =>
    rw [e] at wp
    cases e2 : dicOf h d with
    | none => rw [e2] at wp; exact wp.elim
    | some kvs =>
      rw [e2] at wp
      obtain ⟨a, ks, ev, hs, rs⟩ := dic_rd r e2 q
      subst ev
      exact call_listD hc pins s σ H [.ref a] [u] Q I (.cons ru .nil) ⟨a, ks, rfl, hs, fun l hl => wp_mkL r wp hl (keys_rd rs)⟩
theorem cr_dict (lv : Bool) : CallR X (.type "dict") (runN G (dictP lv)) := by
  refine cr_one fun pins s σ H v u Q ρ h F R d I ru r q wp => ?_
  cases e2 : dicOf h d with
  | none => rw [e2] at wp; exact wp.elim
  | some kvs =>
    rw [e2] at wp
    obtain ⟨a, ks, ev, hs, rs⟩ := dic_rd r e2 q
    subst ev
    exact call_dictD pins s σ H [.ref a] [u] Q I (.cons ru .nil) ⟨a, ks, rfl, hs, fun l hl => wp_mkD r wp hl rs⟩
theorem cr_sortedAny (hK : X.K = G.K) (hc : X.calm = true) (lv : Bool) : CallR X (.builtin "sorted") (runN G (sortedP lv)) := by
  refine cr_one fun pins s σ H v u Q ρ h F R d I ru r q wp => ?_
  cases es : sortedD h d with
  | none => rw [es] at wp; exact wp.elim
  | some ys =>
    rw [es] at wp
    unfold sortedD at es
    cases e : lstOf h d with
    | some xs =>
      rw [e] at es
      simp only at es
      obtain ⟨a, vs, ev, hs, rs⟩ := lst_sq r e q
      subst ev
      cases e1 : ints? xs with
      | some ns =>
        rw [e1] at es
        cases es
        have ev := ints_rd e1 rs
        subst ev
        refine cr_sortedI pins s σ H [.ref a] [u] Q I (.cons ru .nil) ⟨a, ns, rfl, by rw [hK]; exact hs, fun ns' p hp hs' hn => ?_⟩
        rw [sortI_eq hp hs']
        exact wp_mkL r wp hn (rd_ints _)
      | none =>
        rw [e1] at es
        simp only at es
        cases e3 : strs? xs with
        | none => rw [e3] at es; cases es
        | some ss =>
          rw [e3] at es
          simp only at es
          split at es
          · rename_i hz
            cases es
            have ev := strs_rd e3 rs
            subst ev
            refine cr_sortedS pins s σ H [.ref a] [u] Q I (.cons ru .nil) ⟨a, ss, rfl, by rw [hK]; exact hs, hz, fun ns' p hp hs' hn => ?_⟩
            rw [sortS_eq hp hs']
            exact wp_mkL r wp hn (rd_strs _)
          · cases es
    | none =>
      rw [e] at es
      simp only at es
      cases e2 : dicOf h d with
      | none => rw [e2] at es; cases es
      | some kvs =>
        rw [e2] at es
        simp only at es
        obtain ⟨a, ks, ev, hs, rs⟩ := dic_rd r e2 q
        subst ev
        cases e3 : strs? (kvs.map fun kv => dK kv.1) with
        | none => rw [e3] at es; cases es
        | some ss =>
          rw [e3] at es
          simp only at es
          split at es
          · rename_i hz
            cases es
            have ek : ks.map (·.1) = ss.map Sum.inr := by
              have h1 := strs_rd (G := G) (ρ := ρ) (m := h.length) (F := F) e3 (keys_rd rs)
              have h2 : (ks.map (·.1)).map kV = (ss.map Sum.inr).map kV := by
                rw [List.map_map, List.map_map]
                exact h1
              refine List.map_inj_right (f := kV) (fun x y hxy => ?_) |>.mp h2
              cases x <;> cases y <;> simp [kV] at hxy <;> rw [hxy]
            refine call_sortedD hc pins s σ H [.ref a] [u] Q I (.cons ru .nil) ⟨a, ks, ss, rfl, hs, ek, hz, fun ns' p hp hs' hn => ?_⟩
            rw [sortS_eq hp hs']
            exact wp_mkL r wp hn (rd_strs _)
          · cases es
theorem cr_allD (hK : X.K = G.K) (hc : X.calm = true) : CallR X (.builtin "all") (runN G allP) := by
  refine cr_one fun pins s σ H v u Q ρ h F R d I ru r q wp => ?_
  cases e : lstOf h d with
  | none => rw [e] at wp; exact wp.elim
  | some xs =>
    rw [e] at wp
    simp only at wp
    obtain ⟨a, vs, ev, hs, rs⟩ := lst_sq r e q
    subst ev
    cases e1 : bools? xs with
    | none => rw [e1] at wp; exact wp.elim
    | some bs =>
      rw [e1] at wp
      have ev := bools_rd e1 rs
      subst ev
      exact cr_all hc pins s σ H [.ref a] [u] Q I (.cons ru .nil) ⟨a, bs, rfl, by rw [hK]; exact hs, wp_val r wp (.bl _)⟩
theorem cr_anyD (hK : X.K = G.K) (hc : X.calm = true) : CallR X (.builtin "any") (runN G anyP) := by
  refine cr_one fun pins s σ H v u Q ρ h F R d I ru r q wp => ?_
  cases e : lstOf h d with
  | none => rw [e] at wp; exact wp.elim
  | some xs =>
    rw [e] at wp
    simp only at wp
    obtain ⟨a, vs, ev, hs, rs⟩ := lst_sq r e q
    subst ev
    cases e1 : bools? xs with
    | none => rw [e1] at wp; exact wp.elim
    | some bs =>
      rw [e1] at wp
      have ev := bools_rd e1 rs
      subst ev
      exact cr_any hc pins s σ H [.ref a] [u] Q I (.cons ru .nil) ⟨a, bs, rfl, by rw [hK]; exact hs, wp_val r wp (.bl _)⟩
theorem cr_sumD (hK : X.K = G.K) (hc : X.calm = true) : CallR X (.builtin "sum") (runN G sumP) := by
  refine cr_one fun pins s σ H v u Q ρ h F R d I ru r q wp => ?_
  cases e : lstOf h d with
  | none => rw [e] at wp; exact wp.elim
  | some xs =>
    rw [e] at wp
    simp only at wp
    obtain ⟨a, vs, ev, hs, rs⟩ := lst_sq r e q
    subst ev
    cases e1 : ints? xs with
    | none => rw [e1] at wp; exact wp.elim
    | some bs =>
      rw [e1] at wp
      have ev := ints_rd e1 rs
      subst ev
      exact cr_sum hc pins s σ H [.ref a] [u] Q I (.cons ru .nil) ⟨a, bs, rfl, by rw [hK]; exact hs, wp_val r wp (.int _)⟩
theorem cr_absD : CallR X (.builtin "abs") (runN G absP) := by
  refine cr_one fun pins s σ H v u Q ρ h F R d I ru r q wp => ?_
  cases d <;> try exact wp.elim
  cases q
  exact call_abs pins s σ H _ [u] Q I (.cons ru .nil) ⟨_, rfl, wp_val r wp (.int _)⟩
theorem cr_maxD (hK : X.K = G.K) (hc : X.calm = true) : CallR X (.builtin "max") (runN G maxP) := by
  intro pins s σ H xs us Q I rx hq
  obtain ⟨ρ, h, F, R, ds, r, q, wp⟩ := hq
  match ds, q, wp with
  | [], q, wp => exact wp.elim
  | [d], q, wp =>
    obtain ⟨v, rfl, q1⟩ := rds1 q
    have wp : Wp G (LD G) W0 R ρ h.length F (Res.of (match lstOf h d with | some xs => (match ints? xs with | some (n :: ns) => some (.int (maxI (n :: ns)), h) | _ => none) | none => none)) [] Q := by
      cases d <;> exact wp
    cases e : lstOf h d with
    | none => rw [e] at wp; exact wp.elim
    | some xs =>
      rw [e] at wp
      simp only at wp
      obtain ⟨a, vs, ev, hs, rs⟩ := lst_sq r e q1
      subst ev
      cases e1 : ints? xs with
      | none => rw [e1] at wp; exact wp.elim
      | some bs =>
        rw [e1] at wp
        cases bs with
        | nil => exact wp.elim
        | cons n ns =>
          have ev := ints_rd e1 rs
          subst ev
          refine cr_max hc pins s σ H [.ref a] us Q I rx ⟨a, n :: ns, rfl, by rw [hK]; exact hs, by simp, fun m hm hmax => ?_⟩
          obtain ⟨h1, h2⟩ := maxI_mem n ns
          rw [Int.le_antisymm (h2 m hm) (hmax _ h1)]
          exact wp_val r wp (.int _)
  | [d, e], q, wp =>
    obtain ⟨v, u, rfl, q1, q2⟩ := rds2 q
    cases d <;> try exact wp.elim
    cases e <;> try exact wp.elim
    cases q1; cases q2
    exact call_max2 hc pins s σ H _ us Q I rx ⟨_, _, rfl, wp_val r wp (.int _)⟩
  | _ :: _ :: _ :: _, q, wp =>
    rename_i a b c d
    cases a <;> cases b <;> exact wp.elim
theorem cr_minD (hK : X.K = G.K) (hc : X.calm = true) : CallR X (.builtin "min") (runN G minP) := by
  intro pins s σ H xs us Q I rx hq
  obtain ⟨ρ, h, F, R, ds, r, q, wp⟩ := hq
  match ds, q, wp with
  | [], q, wp => exact wp.elim
  | [d], q, wp =>
    obtain ⟨v, rfl, q1⟩ := rds1 q
    have wp : Wp G (LD G) W0 R ρ h.length F (Res.of (match lstOf h d with | some xs => (match ints? xs with | some (n :: ns) => some (.int (minI (n :: ns)), h) | _ => none) | none => none)) [] Q := by
      cases d <;> exact wp
    cases e : lstOf h d with
    | none => rw [e] at wp; exact wp.elim
    | some xs =>
      rw [e] at wp
      simp only at wp
      obtain ⟨a, vs, ev, hs, rs⟩ := lst_sq r e q1
      subst ev
      cases e1 : ints? xs with
      | none => rw [e1] at wp; exact wp.elim
      | some bs =>
        rw [e1] at wp
        cases bs with
        | nil => exact wp.elim
        | cons n ns =>
          have ev := ints_rd e1 rs
          subst ev
          refine cr_min hc pins s σ H [.ref a] us Q I rx ⟨a, n :: ns, rfl, by rw [hK]; exact hs, by simp, fun m hm hmax => ?_⟩
          obtain ⟨h1, h2⟩ := minI_mem n ns
          rw [Int.le_antisymm (hmax _ h1) (h2 m hm)]
          exact wp_val r wp (.int _)
  | [d, e], q, wp =>
    obtain ⟨v, u, rfl, q1, q2⟩ := rds2 q
    cases d <;> try exact wp.elim
    cases e <;> try exact wp.elim
    cases q1; cases q2
    exact call_min2 hc pins s σ H _ us Q I rx ⟨_, _, rfl, wp_val r wp (.int _)⟩
  | _ :: _ :: _ :: _, q, wp =>
    rename_i a b c d
    cases a <;> cases b <;> exact wp.elim
theorem ty_of {ρ : AM} {h : List O} {F R H : Hp} {d : D} {v : V} {t : String} (r : Rel G ρ h F R H) (e : tyD h d = some t) (q : RD G ρ h.length F d v) : TyX G.K H v (.type t) := by
  have gen : (match lstW h d with | some _ => some "list" | none => none) = some t → TyX G.K H v (.type t) := fun e => by
    cases e1 : lstW h d with
    | some xs =>
      rw [e1] at e
      cases e
      obtain ⟨a, vs, ev, hs, rs⟩ := lstW_rd r e1 q
      subst ev
      exact .base (.lst hs)
    | none => rw [e1] at e; cases e
  cases d with
  | non => cases q; cases e; exact .base .non
  | bl b => cases q; cases e; exact .base (.bl b)
  | int b => cases q; cases e; exact .base (.int b)
  | str b => cases q; cases e; exact .base (.str b)
  | tup xs =>
    cases e
    cases q with
    | tup t1 r1 =>
      rcases r.fr.tupAt t1 with ⟨o, h1, h2⟩ | ⟨o, its, n, h1, h2, h3⟩
      · exact .fTuple h1
      · exact .kTuple h1 h2
  | _ => exact gen e
theorem cr_isi (hK : X.K = G.K) : CallR X (.builtin "isinstance") (runN G isiP) := by
  intro pins s σ H xs us Q I rx hq
  obtain ⟨ρ, h, F, R, ds, r, q, wp⟩ := hq
  match ds, q, wp with
  | [], q, wp => exact wp.elim
  | [d], q, wp => exact wp.elim
  | [d, e], q, wp =>
    obtain ⟨v, u, rfl, q1, q2⟩ := rds2 q
    cases e <;> try exact wp.elim
    rename_i c
    cases q2
    simp only [isiP] at wp
    cases e1 : tyD h d with
    | none => rw [e1] at wp; exact wp.elim
    | some t =>
      rw [e1] at wp
      simp only at wp
      cases e2 : kitB t c with
      | none => rw [e2] at wp; exact wp.elim
      | some b =>
        rw [e2] at wp
        exact call_isi pins s σ H _ us Q I rx ⟨v, .ty c, .type t, .type c, b, rfl, .ty c, by rw [hK]; exact ty_of r e1 q1, kit_ty e2, wp_val r wp (.bl b)⟩
  | _ :: _ :: _ :: _, q, wp =>
    rename_i a b c d
    cases b <;> exact wp.elim
end
end Lo
namespace Lo
open PySem PySem.Spec PyProof.Rows L2
def itemL (d e : D) (h : List O) : Option (D × List O) := match seqOf h d with
  | some xs => match e with
    | .int i => (atI xs i).map fun x => (x, h)
    | _ => none
  | none => match dicOf h d with
    | some kvs => match keyD e with
      | some k => (lookK kvs k).map fun x => (x, h)
      | none => none
    | none => none
def itemP : P2 := fun d e h => match d with
  | .str z => match e with
    | .int i => if z.length ≤ sizeLine then (atI z.cps.toList i).map fun c => (.str ⟨#[c]⟩, h) else none
    | _ => none
  | d => itemL d e h
section
variable {X : Cx} {G : GI}
theorem atI_rd {ρ : AM} {m : Nat} {F : Hp} {xs : List D} {vs : List V} {i : Int} {d : D} (q : RDs G ρ m F xs vs) (e : atI xs i = some d) : ∃ v, atI vs i = some v ∧ RD G ρ m F d v := by
  unfold atI at e ⊢
  rw [← q.length]
  cases e1 : ixN xs.length i with
  | none => rw [e1] at e; cases e
  | some j =>
    rw [e1] at e
    obtain ⟨v, h1, h2⟩ := q.get (i := j) e
    exact ⟨v, h1, h2⟩
theorem ix_any (hK : X.K = G.K) (hu : X.A.units + 65 < cLine) : IxR X (rop G itemP) := by
  intro value slice pins s σ H x y v u Q I rx ry hq hs
  obtain ⟨ρ, h, F, R, d, e, r, q1, q2, wp⟩ := hq
  have gen : Wp G (LD G) W0 R ρ h.length F (Res.of (itemL d e h)) [] Q → wpAny (model X.prog X.w) X.A (subscriptTail value slice v u) (EP X pins σ Q) X.xe s := by
    clear wp
    intro wp
    unfold itemL at wp
    cases e1 : seqOf h d with
    | some xs =>
      rw [e1] at wp
      cases e <;> try exact wp.elim
      rename_i i
      cases q2
      simp only at wp
      obtain ⟨a, vs, ev, hsq, rs⟩ := seq_sq r e1 q1
      subst ev
      cases e2 : atI xs i with
      | none => rw [e2] at wp; exact wp.elim
      | some z =>
        rw [e2] at wp
        obtain ⟨w, h1, h2⟩ := atI_rd rs e2
        rcases hsq with hsq | hsq
        · exact ix_list value slice pins s σ H _ _ v u Q I rx ry ⟨a, vs, i, w, rfl, rfl, by rw [hK]; exact hsq, h1, wp_val r wp h2⟩ hs
        · exact ix_tup value slice pins s σ H _ _ v u Q I rx ry ⟨a, vs, i, w, rfl, rfl, by rw [hK]; exact hsq, h1, wp_val r wp h2⟩ hs
    | none =>
      rw [e1] at wp
      simp only at wp
      cases e2 : dicOf h d with
      | none => rw [e2] at wp; exact wp.elim
      | some kvs =>
        rw [e2] at wp
        simp only at wp
        cases e3 : keyD e with
        | none => rw [e3] at wp; exact wp.elim
        | some k =>
          rw [e3] at wp
          simp only at wp
          cases e4 : lookK kvs k with
          | none => rw [e4] at wp; exact wp.elim
          | some z =>
            rw [e4] at wp
            obtain ⟨a, ks, ev, ha, rk⟩ := dic_rd r e2 q1
            subst ev
            obtain rfl : v = Value.ref a := rx
            have ex := keyD_rd e3 q2
            subst ex
            rcases rk.look k with ⟨h1, h2⟩ | ⟨d', v', h1, h2, h3⟩
            · rw [h1] at e4; cases e4
            · rw [h1] at e4
              cases e4
              have g : DGet H a (kV k) (some v') := by rw [← h2]; exact .inl ⟨ks, k, ha, rfl, rfl⟩
              exact tail_any (dict_typeIs I g) PySem.F.slot_dict_getitem.lookup (d_getItem (by omega) I g ry fun w' s' I' rw' => ⟨v', H, I', rw', wp_val r wp h3⟩) hs
  cases d with
  | str z =>
    cases e <;> try exact wp.elim
    rename_i i
    cases q1; cases q2
    simp only [itemP] at wp
    by_cases hz : z.length ≤ sizeLine
    · rw [if_pos hz] at wp
      cases e2 : atI z.cps.toList i with
      | none => rw [e2] at wp; exact wp.elim
      | some c =>
        rw [e2] at wp
        exact ix_str value slice pins s σ H _ _ v u Q I rx ry ⟨z, i, c, rfl, rfl, hz, e2, wp_val r wp (.str _)⟩ hs
    · rw [if_neg hz] at wp; exact wp.elim
  | _ => exact gen wp
theorem pe_item {W : WX} {a b : Expr} {A B : Ac} {pos : Pos} (hK : X.K = G.K) (hu : X.A.units + 65 < cLine) (ha : PE X a (rd G W A)) (hb : PE X b (rd G W B)) (hs : PlainIx b) : PE X (.Subscript a b pos) (rd G W (ac2 itemP A B)) :=
  (pe_ix (ix_any hK hu) ha hb hs).weakL fun _ _ _ => rd2
end
def cutG {α : Type} (xs : List α) (lo hi : Option Int) : List α := (xs.drop (HT.sIx xs.length 0 lo)).take (HT.sIx xs.length xs.length hi - HT.sIx xs.length 0 lo)
abbrev AcO := Sl → List O → Res (Option Int)
def sliceD (lv : Bool) (d : D) (lo hi : Option Int) (h : List O) : Option (D × List O) := match d with
  | .str z => if z.length ≤ sizeLine then some (.str (cutS z lo hi), h) else none
  | .tup xs => some (.tup (cutG xs lo hi), h)
  | d => (lstOf h d).map fun xs => mkL lv (cutG xs lo hi) h
def aoNone : AcO := fun _ h => .ok none h
def aoSome (A : Ac) : AcO := fun s h => (A s h).bind fun d h1 => match d with
  | .int i => .ok (some i) h1
  | _ => .no
def acSl (lv : Bool) (A : Ac) (B C : AcO) : Ac := fun s h => (A s h).bind fun d h1 => (B s h1).bind fun lo h2 => (C s h2).bind fun hi h3 => Res.of (sliceD lv d lo hi h3)
abbrev LO : (ρ : AM) → (m : Nat) → (F : Hp) → Option Int → Option Int → Prop := fun _ _ _ a b => a = b
abbrev rdO (G : GI) (W : WX) (a : AcO) : TO := rdG G LO W a
theorem _root_.L2.PO.weakL {X : Cx} {e : Option Expr} {t t' : TO} (h : PO X e t) (i : ∀ σ H Q, t' σ H Q → t σ H Q) : PO X e t' := ⟨fun pins s σ H Q I q => h.run pins s σ H Q I (i σ H Q q)⟩
section
variable {X : Cx} {G : GI} {W : WX} {a : Expr} {A : Ac} {B C : AcO} {pos p2 : Pos} {lo hi : Option Expr}
theorem po_noneD : PO X none (rdO G W aoNone) := po_none.weakL fun σ H Q ⟨ρ, s, h, F, R, r, sr, wp⟩ => wp ρ F _ H (Ext.refl _ _ _) r rfl
theorem po_someD (ha : PE X a (rd G W A)) : PO X (some a) (rdO G W (aoSome A)) :=
  (po_some ha).weakL fun σ H Q h => by
    obtain ⟨ρ, s, h, F, R, r, sr, wp⟩ := h
    refine step (L := LD G) r sr wp fun ρ1 h1 F1 d x H1 x1 r1 q1 wp1 => ?_
    cases d <;> try exact wp1.elim
    cases q1
    exact ⟨_, rfl, wp1 ρ1 F1 _ H1 (Ext.refl _ _ _) r1 rfl⟩
theorem RDs.cut {ρ : AM} {m : Nat} {F : Hp} {xs : List D} {vs : List V} (q : RDs G ρ m F xs vs) (lo hi : Option Int) : RDs G ρ m F (cutG xs lo hi) (cutV vs lo hi) := by
  unfold cutG cutV
  rw [q.length]
  exact (q.drop _).take _
theorem sIx_le' (n e : Nat) (he : e ≤ n) (o : Option Int) : HT.sIx n e o ≤ n := HT.sIx_le _ _ he _
def rSlD (G : GI) (lv : Bool) : V → Option Int → Option Int → Hp → VK → Prop := fun x lo hi H Q => ∃ ρ h F R d, Rel G ρ h F R H ∧ RD G ρ h.length F d x ∧ Wp G (LD G) W0 R ρ h.length F (Res.of (sliceD lv d lo hi h)) [] Q
theorem slr_any (hK : X.K = G.K) (lv : Bool) : SlR X (rSlD G lv) := by
  intro pins s σ H x v vl vu lo hi sl Q I rx hs pl pu hq
  obtain ⟨ρ, h, F, R, d, r, q, wp⟩ := hq
  have lists : Wp G (LD G) W0 R ρ h.length F (Res.of ((lstOf h d).map fun xs => mkL lv (cutG xs lo hi) h)) [] Q → ∃ T id, typeLookup (.type T) "__getitem__" = pure (some (.builtin id)) ∧ s.TypeIs v T ∧ wpAny (model X.prog X.w) X.A (getItem v (.ref sl)) (EP X pins σ Q) X.xe s := fun wp => by
    cases e : lstOf h d with
    | none => rw [e] at wp; exact wp.elim
    | some xs =>
      rw [e] at wp
      obtain ⟨a, vs, ev, hsq, rs⟩ := lst_sq r e q
      subst ev
      exact sl_list pins s σ H _ v vl vu lo hi sl Q I rx hs pl pu ⟨a, vs, rfl, by rw [hK]; exact hsq, fun p hp => wp_mkL r wp hp (rs.cut lo hi)⟩
  cases d with
  | str z =>
    cases q
    simp only [sliceD] at wp
    by_cases hz : z.length ≤ sizeLine
    · rw [if_pos hz] at wp
      exact sl_str pins s σ H _ v vl vu lo hi sl Q I rx hs pl pu ⟨z, rfl, hz, wp_val r wp (.str _)⟩
    · rw [if_neg hz] at wp; exact wp.elim
  | tup xs =>
    simp only [sliceD] at wp
    cases q with
    | tup t1 r1 =>
      rename_i a vs
      have T1 : SqT X.K H a vs := by rw [hK]; exact (r.fr.tupAt t1).sq
      obtain rfl : v = Value.ref a := rx
      obtain ⟨its, rv, ht, hz⟩ := I.tuple T1
      have hlen : its.toArray.size = vs.length := by rw [List.size_toArray]; exact rv.length.symm
      refine ⟨"tuple", _, PyProof.Rows.slot_tuple_getitem.lookup, ht.typeIs, ?_⟩
      by_cases hw : HT.sIx vs.length 0 lo = 0 ∧ HT.sIx vs.length vs.length hi = vs.length
      · refine getItem_tuple_whole ht hs pl pu (by rw [hlen]; exact hw) ⟨.ref a, H, I, rfl, ?_⟩
        refine wp_val r wp (.tup t1 ?_)
        have e : cutG xs lo hi = xs := by
          unfold cutG
          rw [r1.length, hw.1, hw.2]
          simp [← r1.length]
        rw [e]; exact r1
      · refine HT.getItem_tuple_cut ht hs pl pu (by rw [hlen]; exact hw) ?_ (by rw [hlen]; exact hz)
        rw [hlen]
        refine ⟨.ref s.heap.objs.size, _, lay_tup (t' := s.toks) (vs := cutV vs lo hi) I ((rv.drop (HT.sIx vs.length 0 lo)).take (HT.sIx vs.length vs.length hi - HT.sIx vs.length 0 lo)) (Nat.le_trans (cutV_length vs lo hi) hz), rfl, ?_⟩
        exact wp_frz r wp (I.hok.fresh (Nat.le_refl _)) fun F' x hF => rd_newTup (r1.cut lo hi) rfl x hF
  | _ => exact lists wp
theorem pe_sliceD (hK : X.K = G.K) (lv : Bool) (ha : PE X a (rd G W A)) (hl : PO X lo (rdO G W B)) (hh : PO X hi (rdO G W C)) : PE X (.Subscript a (.Slice lo hi none p2) pos) (rd G W (acSl lv A B C)) :=
  (pe_slice (slr_any hK lv) ha hl hh).weakL fun σ H Q hq => by
    obtain ⟨ρ, s, h, F, R, r, sr, wp⟩ := hq
    refine step (L := LD G) r sr wp fun ρ1 h1 F1 d x H1 x1 r1 q1 wp1 => ?_
    refine step (L := LO) r1 (sr.mono x1) wp1 fun ρ2 h2 F2 l l' H2 x2 r2 q2 wp2 => ?_
    refine step (L := LO) r2 ((sr.mono x1).mono x2) wp2 fun ρ3 h3 F3 u u' H3 x3 r3 q3 wp3 => ?_
    have q2 : l = l' := q2
    have q3 : u = u' := q3
    subst q2 q3
    refine ⟨ρ3, h3, F3, R, d, r3, q1.mono (x2.trans x3), ?_⟩
    cases e3 : sliceD lv d l u h3 with
    | none => rw [e3] at wp3; exact wp3
    | some p => rw [e3] at wp3; exact wp3
end
def tyM (h : List O) : D → Option String
  | .str _ => some "str"
  | .tup _ => some "tuple"
  | d => match lstW h d with
    | some _ => some "list"
    | none => match dicOf h d with
      | some _ => some "dict"
      | none => none
abbrev MTab := String → Option (String × P1N)
def acM (tb : MTab) (A : Ac) (L : AcL) : Ac := fun s h => (A s h).bind fun d h1 => match tyM h1 d with
  | some T => match tb T with
    | some (_, f) => (L s h1).bind fun ds h2 => Res.of (f d ds h2)
    | none => .no
  | none => .no
structure MOk (X : Cx) (G : GI) (name : Str) (T id : String) (f : P1N) : Prop where
  pa : PlainAttrs T
  slot : Slot T name id
  ty : typeOf (.builtin id) = pure (.type "method_descriptor")
  mt : MtR X id (run1N G f)
section
variable {X : Cx} {G : GI}
theorem tyM_is {ρ : AM} {h : List O} {F R H : Hp} {d : D} {v : V} {T : String} {u : Value} {pins : List (Addr × Obj)} {σ : L2.St} {s : Shared} (hK : X.K = G.K) (I : Inv X pins σ H s) (r : Rel G ρ h F R H) (e : tyM h d = some T) (q : RD G ρ h.length F d v) (ru : RelV v u) :
    s.TypeIs u T ∧ ∀ a, u = .ref a → ∃ ob, s.heap.get? a = some ob ∧ ob.dict = none := by
  have gen : (match lstW h d with | some _ => some "list" | none => match dicOf h d with | some _ => some "dict" | none => none) = some T → s.TypeIs u T ∧ ∀ a, u = .ref a → ∃ ob, s.heap.get? a = some ob ∧ ob.dict = none := fun e => by
    cases e1 : lstW h d with
    | some xs =>
      rw [e1] at e
      cases e
      obtain ⟨a, vs, ev, hs, rs⟩ := lstW_rd r e1 q
      subst ev
      exact tyV_is I ru (.inl ⟨rfl, vs, SqL.of hs⟩)
    | none =>
      rw [e1] at e
      simp only at e
      cases e2 : dicOf h d with
      | none => rw [e2] at e; cases e
      | some kvs =>
        rw [e2] at e
        cases e
        obtain ⟨a, vs, ev, hs, rs⟩ := dic_rd r e2 q
        subst ev
        obtain rfl : u = Value.ref a := ru
        obtain ⟨_, _, vs', _, dd⟩ := dk_rd I.hok hs
        exact ⟨dd.typeIs, dd.mapOf.noDict⟩
  cases d with
  | str z => cases q; cases e; exact tyV_is (X := X) I ru rfl
  | tup xs =>
    cases e
    cases q with
    | tup t1 r1 =>
      rename_i a vs
      obtain rfl : u = Value.ref a := ru
      rcases r.fr.tupAt t1 with ⟨o, h1, h2⟩ | ⟨o, its, n, h1, h2, h3, h4⟩
      · obtain ⟨g, _, _, _, o', g', c, _⟩ := (show ObjOk X.prog X.w H s.heap a (.frz o (.tup vs)) from I.hok a _ h1)
        rw [g] at g'
        cases g'
        exact ⟨⟨o, g, c⟩, fun b e => by cases e; exact ⟨o, g, h2⟩⟩
      · have g := I.kIn a o (by rw [hK]; exact h1)
        exact ⟨⟨o, g, h2⟩, fun b e => by cases e; exact ⟨o, g, h3⟩⟩
  | _ => exact gen e
variable {W : WX} {o a : Expr} {es : List Expr} {A : Ac} {L : AcL} {name : Str} {apos cpos : Pos} {tb : MTab}
theorem pe_m (hK : X.K = G.K) (htb : ∀ T id f, tb T = some (id, f) → MOk X G name T id f) (ho : PE X o (rd G W A)) (ha : PA X (a :: es) (rdA G W L)) (hbase : attributeBase o name X.env (eval o X.env) = eval o X.env)
    (hfew : ((backTo cpos (starEach (a :: es) X.env)).all (fun x => !x.1) && (backToKw cpos (keywordEach [] X.env)).all (fun x => x.1.isSome)
      && decide ((a :: es).length + ([] : List Keyword).length + (if ([] : List Keyword).isEmpty then 0 else 1) < 30)) = true)
    (hline : (apos.endLine == cpos.line) = true) (hs : starEach (a :: es) X.env = (false, eval a X.env) :: starEach es X.env) (hplain : (backTo cpos (starEach es X.env)).any (·.1) = false) :
    PE X (.Call (.Attribute o name apos) (a :: es) [] cpos) (rd G W (acM tb A L)) := by
  refine ⟨fun pins s σ H Q I hq => ?_⟩
  obtain ⟨ρ, s0, h0, F, R, r, sr, wp⟩ := hq
  have hr : rd G W A σ H fun v H1 => ∃ ρ1 h1 F1 d T id f, Rel G ρ1 h1 F1 R H1 ∧ SRel G ρ1 h1.length F1 s0 σ ∧ RD G ρ1 h1.length F1 d v ∧ tyM h1 d = some T ∧ tb T = some (id, f) ∧ Wp G (LD G) W R ρ1 h1.length F1 ((L s0 h1).bind fun ds h2 => Res.of (f d ds h2)) σ Q := by
    refine step (L := LD G) r sr wp fun ρ1 h1 F1 d x H1 x1 r1 q1 wp1 => ?_
    cases e1 : tyM h1 d with
    | none => rw [e1] at wp1; exact wp1.elim
    | some T =>
      rw [e1] at wp1
      simp only at wp1
      cases e2 : tb T with
      | none => rw [e2] at wp1; exact wp1.elim
      | some p =>
        obtain ⟨id, f⟩ := p
        rw [e2] at wp1
        exact ⟨ρ1, h1, F1, d, T, id, f, r1, sr.mono x1, q1, e1, e2, wp1⟩
  refine wpAny_Call_method_late hbase hfew hline rfl (thn (ho.run pins s σ H _ I hr) fun u s1 ⟨v, H1, I1, ru, ρ1, h1, F1, d, T, id, f, r1, sr1, q1, e1, e2, wp1⟩ => ?_)
  obtain ⟨t1, t2⟩ := tyM_is hK I1 r1 e1 q1 ru
  have M := htb T id f e2
  refine ⟨T, id, M.pa, M.slot, M.ty, t1, t2, ?_⟩
  have hA := ha.run cpos pins s1 σ H1 (fun vs H2 => run1N G f v vs H2 Q) I1 (step (L := LDs G) r1 sr1 wp1 fun ρ2 h2 F2 ds vs H2 x2 r2 q2 wp2 => ⟨ρ2, h2, F2, R, d, ds, r2, q1.mono x2, q2, by
    cases e3 : f d ds h2 with
    | none => rw [e3] at wp2; exact wp2
    | some p => rw [e3] at wp2; exact wp2⟩)
  rw [hs] at hA ⊢
  refine Calls.callWith_builtin (by show (false || (backTo cpos (starEach es X.env)).any (·.1)) = false; rw [hplain] <;> rfl) (Calls.evalArgs_plain ?_)
  exact thn hA fun us s2 ⟨vs, H2, I2, r2, q2⟩ => M.mt pins s2 σ H2 v vs u us Q I2 ru r2 q2
theorem pe_m0D (hK : X.K = G.K) (htb : ∀ T id f, tb T = some (id, f) → MOk X G name T id f) (ho : PE X o (rd G W A)) (hbase : attributeBase o name X.env (eval o X.env) = eval o X.env)
    (hline : (apos.endLine == cpos.line) = true) : PE X (.Call (.Attribute o name apos) [] [] cpos) (rd G W (acM tb A alNil)) := by
  refine ⟨fun pins s σ H Q I hq => ?_⟩
  obtain ⟨ρ, s0, h0, F, R, r, sr, wp⟩ := hq
  have hr : rd G W A σ H fun v H1 => ∃ ρ1 h1 F1 d T id f, Rel G ρ1 h1 F1 R H1 ∧ RD G ρ1 h1.length F1 d v ∧ tyM h1 d = some T ∧ tb T = some (id, f) ∧ Wp G (LD G) W R ρ1 h1.length F1 (Res.of (f d [] h1)) σ Q := by
    refine step (L := LD G) r sr wp fun ρ1 h1 F1 d x H1 x1 r1 q1 wp1 => ?_
    cases e1 : tyM h1 d with
    | none => rw [e1] at wp1; exact wp1.elim
    | some T =>
      rw [e1] at wp1
      simp only at wp1
      cases e2 : tb T with
      | none => rw [e2] at wp1; exact wp1.elim
      | some p =>
        obtain ⟨id, f⟩ := p
        rw [e2] at wp1
        exact ⟨ρ1, h1, F1, d, T, id, f, r1, q1, e1, e2, wp1⟩
  refine wpAny_Call_method0_late hbase hline (thn (ho.run pins s σ H _ I hr) fun u s1 ⟨v, H1, I1, ru, ρ1, h1, F1, d, T, id, f, r1, q1, e1, e2, wp1⟩ => ?_)
  obtain ⟨t1, t2⟩ := tyM_is hK I1 r1 e1 q1 ru
  have M := htb T id f e2
  refine ⟨T, id, M.pa, M.slot, M.ty, t1, t2, Calls.callWith_builtin rfl (PySem.evalArgs_none ?_)⟩
  refine M.mt pins s1 σ H1 v [] u [] Q I1 ru .nil ⟨ρ1, h1, F1, R, d, [], r1, q1, .nil, ?_⟩
  cases e3 : f d [] h1 with
  | none => rw [e3] at wp1; exact wp1
  | some p => rw [e3] at wp1; exact wp1
end
def liveL (h : List O) : D → Option (Nat × List D)
  | .loc n => match h[n]? with
    | some (.lst xs) => some (n, xs)
    | _ => none
  | _ => none
def appendP : P1N := fun d ds h => match ds with
  | [y] => match liveL h d with
    | some (n, xs) => if xs.length < sizeLine then some (.non, h.set n (.lst (xs ++ [y]))) else none
    | none => none
  | _ => none
def extendP : P1N := fun d ds h => match ds with
  | [y] => match liveL h d with
    | some (n, xs) => match lstW h y with
      | some ys => if xs.length + ys.length ≤ sizeLine then some (.non, h.set n (.lst (xs ++ ys))) else none
      | none => none
    | none => none
  | _ => none
def popP : P1N := fun d ds h => match liveL h d with
  | some (n, xs) => match ds with
    | [] => match xs[xs.length - 1]? with
      | some y => some (y, h.set n (.lst xs.dropLast))
      | none => none
    | [.int i] => if -(2 ^ 63) ≤ i ∧ i < 2 ^ 63 then match seqIndex? i xs.length with
        | some k => match xs[k]? with
          | some y => some (y, h.set n (.lst (xs.eraseIdx k)))
          | none => none
        | none => none
      else none
    | _ => none
  | none => none
def pdTup (h : List O) (d : D) : Option (List PyData) := match pd h eqFuel d with
  | some (.tuple ps) => if SeqAt.shaped (.tuple ps) = true then some ps else none
  | _ => none
def pdLst (h : List O) (d : D) : Option (List PyData) := match pd h eqFuel d with
  | some (.list ps) => if SeqAt.shaped (.list ps) = true then some ps else none
  | _ => none
def pdOne (h : List O) (d : D) : Option PyData := match pd h eqFuel d with
  | some p => if SeqAt.shaped p = true then some p else none
  | none => none
def findE (p : PyData) : List PyData → Nat → Option Nat
  | [], _ => none
  | z :: r, j => if PyData.eqv z p = true then some j else findE p r (j + 1)
def ixcP (f : List O → D → Option (List PyData)) (g : PyData → List PyData → Option Int) : P1N := fun d ds h => match ds with
  | [y] => match f h d, pdOne h y with
    | some ps, some p => (g p ps).map fun j => (.int j, h)
    | _, _ => none
  | _ => none
def indexP (f : List O → D → Option (List PyData)) : P1N := ixcP f fun p ps => (findE p ps 0).map fun j => ((j : Nat) : Int)
def countP (f : List O → D → Option (List PyData)) : P1N := ixcP f fun p ps => some ((ps.countP fun z => PyData.eqv z p : Nat) : Int)
def sindexP : P1N := fun d ds h => match d, ds with
  | .str a, [.str b] => match Builtin.Str.occurrences a b 0 a.length 1 with
    | i :: _ => some (.int (i : Nat), h)
    | [] => none
  | _, _ => none
def joinP : P1N := fun d ds h => match d, ds with
  | .str a, [y] => match seqOf h y with
    | some xs => match strs? xs with
      | some ys => if (ys.map (·.length)).sum + ys.length * a.length ≤ 16777216 then some (.str (Txt.join a ys), h) else none
      | none => none
    | none => none
  | _, _ => none
def splitP (lv : Bool) : P1N := fun d ds h => match d, ds with
  | .str a, [.str b] => if (b.length == 0) = false ∧ a.length + 2 ≤ sizeLine then some (mkL lv ((Txt.split a b).map D.str) h) else none
  | _, _ => none
def getP : P1N := fun d ds h => match ds with
  | [k, y] => match dicOf h d, keyD k with
    | some kvs, some k => some ((lookK kvs k).getD y, h)
    | _, _ => none
  | _ => none
section
variable {X : Cx} {G : GI}
theorem liveL_rd {ρ : AM} {h : List O} {F R H : Hp} (r : Rel G ρ h F R H) {d : D} {v : V} {n : Nat} {xs : List D} (e : liveL h d = some (n, xs)) (q : RD G ρ h.length F d v) :
    ∃ vs, v = .ref (ρ.ob n) ∧ n < h.length ∧ H (ρ.ob n) = some (.lst vs) ∧ RDs G ρ h.length F xs vs := by
  cases d <;> simp only [liveL] at e <;> try cases e
  rename_i k
  cases e0 : h[k]? with
  | none => rw [e0] at e; cases e
  | some o =>
    rw [e0] at e
    cases o <;> simp at e
    obtain ⟨rfl, rfl⟩ := e
    cases q with
    | loc _ hn =>
      obtain ⟨vs, h1, h2⟩ := r.lv k _ e0
      exact ⟨vs, rfl, hn, h1, h2⟩
theorem wp_put {ρ : AM} {h : List O} {F R H : Hp} {Q : VK} {σ : L2.St} {W : WX} {n : Nat} {d : D} {v : V} {xs : List D} {vs : List V} (r : Rel G ρ h F R H) (hn : n < h.length) (wp : Wp G (LD G) W R ρ h.length F (.ok d (h.set n (.lst xs))) σ Q)
    (q : RDs G ρ h.length F xs vs) (qd : RD G ρ h.length F d v) : Q v (upd H (ρ.ob n) (.lst vs)) := by
  have r' := r.put (o := .lst xs) (u := .lst vs) rfl hn ⟨vs, upd_same, q⟩
  have hl : (h.set n (.lst xs)).length = h.length := List.length_set
  exact wp ρ F v _ (by rw [hl]; exact Ext.refl _ _ _) r' (by rw [hl]; exact qd)
theorem mt_appendD : MtR X "list.append" (run1N G appendP) := by
  intro pins s σ H x xs v us Q I rx rs hq
  obtain ⟨ρ, h, F, R, d, ds, r, q1, q2, wp⟩ := hq
  match ds, q2, wp with
  | [], q2, wp => exact wp.elim
  | [y], q2, wp =>
    obtain ⟨w, rfl, qw⟩ := rds1 q2
    simp only [appendP] at wp
    cases e : liveL h d with
    | none => rw [e] at wp; exact wp.elim
    | some p =>
      obtain ⟨n, ys⟩ := p
      rw [e] at wp
      simp only at wp
      by_cases hz : ys.length < sizeLine
      · rw [if_pos hz] at wp
        obtain ⟨vs, ev, hn, ha, ra⟩ := liveL_rd r e q1
        subst ev
        exact mt_append pins s σ H _ _ v us Q I rx rs ⟨_, vs, w, rfl, rfl, ha, by rw [← ra.length]; exact hz, wp_put r hn wp (ra.append (.cons qw .nil)) .non⟩
      · rw [if_neg hz] at wp; exact wp.elim
  | _ :: _ :: _, q2, wp => exact wp.elim
theorem mt_extendD : MtR X "list.extend" (run1N G extendP) := by
  intro pins s σ H x xs v us Q I rx rs hq
  obtain ⟨ρ, h, F, R, d, ds, r, q1, q2, wp⟩ := hq
  match ds, q2, wp with
  | [], q2, wp => exact wp.elim
  | [y], q2, wp =>
    obtain ⟨w, rfl, qw⟩ := rds1 q2
    simp only [extendP] at wp
    cases e : liveL h d with
    | none => rw [e] at wp; exact wp.elim
    | some p =>
      obtain ⟨n, ys⟩ := p
      rw [e] at wp
      simp only at wp
      cases e2 : lstW h y with
      | none => rw [e2] at wp; exact wp.elim
      | some zs =>
        rw [e2] at wp
        simp only at wp
        by_cases hz : ys.length + zs.length ≤ sizeLine
        · rw [if_pos hz] at wp
          obtain ⟨vs, ev, hn, ha, ra⟩ := liveL_rd r e q1
          obtain ⟨b, ws, ew, hb, rb⟩ := lstW_rd r e2 qw
          subst ev ew
          exact mt_extend pins s σ H _ _ v us Q I rx rs ⟨_, b, vs, ws, rfl, rfl, ha, hb, by rw [← ra.length, ← rb.length]; exact hz, wp_put r hn wp (ra.append rb) .non⟩
        · rw [if_neg hz] at wp; exact wp.elim
  | _ :: _ :: _, q2, wp => exact wp.elim
theorem RDs.dropLast {ρ : AM} {m : Nat} {F : Hp} {xs : List D} {vs : List V} (q : RDs G ρ m F xs vs) : RDs G ρ m F xs.dropLast vs.dropLast := by
  rw [List.dropLast_eq_take, List.dropLast_eq_take, q.length]
  exact q.take _
theorem mt_popD : MtR X "list.pop" (run1N G popP) := by
  intro pins s σ H x xs v us Q I rx rs hq
  obtain ⟨ρ, h, F, R, d, ds, r, q1, q2, wp⟩ := hq
  simp only [popP] at wp
  cases e : liveL h d with
  | none => rw [e] at wp; exact wp.elim
  | some p =>
    obtain ⟨n, ys⟩ := p
    rw [e] at wp
    simp only at wp
    obtain ⟨vs, ev, hn, ha, ra⟩ := liveL_rd r e q1
    subst ev
    match ds, q2, wp with
    | [], q2, wp =>
      cases q2
      simp only at wp
      cases e2 : ys[ys.length - 1]? with
      | none => rw [e2] at wp; exact wp.elim
      | some y =>
        rw [e2] at wp
        obtain ⟨w, h1, h2⟩ := ra.get e2
        exact mt_pop pins s σ H _ _ v us Q I rx rs ⟨_, vs, w, rfl, rfl, ha, by rw [← ra.length]; exact h1, wp_put r hn wp ra.dropLast h2⟩
    | [y], q2, wp =>
      obtain ⟨w, rfl, qw⟩ := rds1 q2
      cases y <;> try exact wp.elim
      rename_i i
      cases qw
      simp only at wp
      by_cases hz : -(2 ^ 63) ≤ i ∧ i < 2 ^ 63
      · rw [if_pos hz] at wp
        cases e2 : seqIndex? i ys.length with
        | none => rw [e2] at wp; exact wp.elim
        | some k =>
          rw [e2] at wp
          simp only at wp
          cases e3 : ys[k]? with
          | none => rw [e3] at wp; exact wp.elim
          | some y =>
            rw [e3] at wp
            obtain ⟨w, h1, h2⟩ := ra.get e3
            exact mt_popAt pins s σ H _ _ v us Q I rx rs ⟨_, vs, i, k, w, rfl, rfl, ha, hz.1, hz.2, by rw [← ra.length]; exact e2, h1, wp_put r hn wp (ra.eraseIdx k) h2⟩
      · rw [if_neg hz] at wp; exact wp.elim
    | _ :: _ :: _, q2, wp => rename_i a b c; cases a <;> exact wp.elim
theorem mt_joinD (hK : X.K = G.K) : MtR X "str.join" (run1N G joinP) := by
  intro pins s σ H x xs v us Q I rx rs hq
  obtain ⟨ρ, h, F, R, d, ds, r, q1, q2, wp⟩ := hq
  cases d <;> try exact wp.elim
  rename_i a
  cases q1
  match ds, q2, wp with
  | [], q2, wp => exact wp.elim
  | [y], q2, wp =>
    obtain ⟨w, rfl, qw⟩ := rds1 q2
    simp only [joinP] at wp
    cases e : seqOf h y with
    | none => rw [e] at wp; exact wp.elim
    | some zs =>
      rw [e] at wp
      simp only at wp
      cases e2 : strs? zs with
      | none => rw [e2] at wp; exact wp.elim
      | some ys =>
        rw [e2] at wp
        simp only at wp
        by_cases hz : (ys.map (·.length)).sum + ys.length * a.length ≤ 16777216
        · rw [if_pos hz] at wp
          obtain ⟨p, vs, ev, hs, rv⟩ := seq_sq r e qw
          subst ev
          have ev := strs_rd e2 rv
          subst ev
          exact mt_join pins s σ H _ _ v us Q I rx rs ⟨a, p, ys, rfl, rfl, by rw [hK]; exact hs, hz, wp_val r wp (.str _)⟩
        · rw [if_neg hz] at wp; exact wp.elim
  | _ :: _ :: _, q2, wp => exact wp.elim
theorem mt_splitD (lv : Bool) : MtR X "str.split" (run1N G (splitP lv)) := by
  intro pins s σ H x xs v us Q I rx rs hq
  obtain ⟨ρ, h, F, R, d, ds, r, q1, q2, wp⟩ := hq
  cases d <;> try exact wp.elim
  rename_i a
  cases q1
  match ds, q2, wp with
  | [], q2, wp => exact wp.elim
  | [y], q2, wp =>
    obtain ⟨w, rfl, qw⟩ := rds1 q2
    cases y <;> try exact wp.elim
    rename_i b
    cases qw
    simp only [splitP] at wp
    by_cases hz : (b.length == 0) = false ∧ a.length + 2 ≤ sizeLine
    · rw [if_pos hz] at wp
      exact mt_split pins s σ H _ _ v us Q I rx rs ⟨a, b, rfl, rfl, hz.1, hz.2, fun p hp => wp_mkL r wp hp (rd_strs _)⟩
    · rw [if_neg hz] at wp; exact wp.elim
  | _ :: _ :: _, q2, wp => rename_i a b c; cases a <;> exact wp.elim
theorem mt_sindexD : MtR X "str.index" (run1N G sindexP) := by
  intro pins s σ H x xs v us Q I rx rs hq
  obtain ⟨ρ, h, F, R, d, ds, r, q1, q2, wp⟩ := hq
  cases d <;> try exact wp.elim
  rename_i a
  cases q1
  match ds, q2, wp with
  | [], q2, wp => exact wp.elim
  | [y], q2, wp =>
    obtain ⟨w, rfl, qw⟩ := rds1 q2
    cases y <;> try exact wp.elim
    rename_i b
    cases qw
    simp only [sindexP] at wp
    cases e : Builtin.Str.occurrences a b 0 a.length 1 with
    | nil => rw [e] at wp; exact wp.elim
    | cons i rest =>
      rw [e] at wp
      exact mt_sindex pins s σ H _ _ v us Q I rx rs ⟨a, b, i, rest, rfl, rfl, e, wp_val r wp (.int _)⟩
  | _ :: _ :: _, q2, wp => rename_i a b c; cases a <;> exact wp.elim
theorem mt_getD (hu : X.A.units + 65 < cLine) : MtR X "dict.get" (run1N G getP) := by
  intro pins s σ H x xs v us Q I rx rs hq
  obtain ⟨ρ, h, F, R, d, ds, r, q1, q2, wp⟩ := hq
  match ds, q2, wp with
  | [], q2, wp => exact wp.elim
  | [_], q2, wp => exact wp.elim
  | [k, y], q2, wp =>
    obtain ⟨w, w2, rfl, qw, qy⟩ := rds2 q2
    simp only [getP] at wp
    cases e : dicOf h d with
    | none => rw [e] at wp; exact wp.elim
    | some kvs =>
      cases e2 : keyD k with
      | none => rw [e, e2] at wp; exact wp.elim
      | some k' =>
        rw [e, e2] at wp
        simp only at wp
        obtain ⟨a, ks, ev, ha, rk⟩ := dic_rd r e q1
        subst ev
        obtain rfl : v = Value.ref a := rx
        have ex := keyD_rd e2 qw
        subst ex
        obtain ⟨u1, u2, rfl, ru1, ru2⟩ := Vals.two rs
        refine d_get2 (by omega) I (.inl ⟨ks, k', ha, rfl, rfl⟩) ru1 ru2 fun w' s' I' rw' => ⟨_, H, I', rw', ?_⟩
        refine wp_val r wp ?_
        rcases rk.look k' with ⟨h1, h2⟩ | ⟨d', v', h1, h2, h3⟩
        · rw [h1, h2]; exact qy
        · rw [h1, h2]; exact h3
  | _ :: _ :: _ :: _, q2, wp => exact wp.elim
theorem findE_at (p : PyData) : ∀ (ps : List PyData) (j k : Nat), findE p ps j = some k → ∃ z, j ≤ k ∧ ps[k - j]? = some z ∧ PyData.eqv z p = true ∧ ∀ (m : Nat) (z' : PyData), m < k - j → ps[m]? = some z' → PyData.eqv z' p = false
  | [], j, k, e => by cases e
  | z :: r, j, k, e => by
    unfold findE at e
    split at e
    · rename_i hz
      cases e
      exact ⟨z, Nat.le_refl _, by simp, hz, fun m z' hm => by omega⟩
    · rename_i hz
      obtain ⟨w, h1, h2, h3, h4⟩ := findE_at p r (j + 1) k e
      have ek : k - j = (k - (j + 1)) + 1 := by omega
      refine ⟨w, by omega, by rw [ek]; simpa using h2, h3, fun m z' hm hz' => ?_⟩
      cases m with
      | zero =>
        simp at hz'
        subst hz'
        simpa using hz
      | succ m => exact h4 m z' (by omega) (by simpa using hz')
theorem pdOne_dp {ρ : AM} {h : List O} {F R H : Hp} {d : D} {v : V} {p : PyData} (r : Rel G ρ h F R H) (e : pdOne h d = some p) (q : RD G ρ h.length F d v) : Dp G.K H v p ∧ SeqAt.shaped p = true := by
  unfold pdOne at e
  cases e1 : pd h eqFuel d with
  | none => rw [e1] at e; cases e
  | some p' =>
    rw [e1] at e
    simp only at e
    split at e
    · rename_i hs
      cases e
      exact ⟨dp_of r _ _ _ _ e1 q, hs⟩
    · cases e
theorem pdTup_dp {ρ : AM} {h : List O} {F R H : Hp} {d : D} {v : V} {ps : List PyData} (r : Rel G ρ h F R H) (e : pdTup h d = some ps) (q : RD G ρ h.length F d v) : Dp G.K H v (.tuple ps) ∧ SeqAt.shaped (.tuple ps) = true := by
  unfold pdTup at e
  cases e1 : pd h eqFuel d with
  | none => rw [e1] at e; cases e
  | some p' =>
    rw [e1] at e
    cases p' <;> simp at e
    obtain ⟨hs, e⟩ := e
    subst e
    exact ⟨dp_of r _ _ _ _ e1 q, hs⟩
theorem pdLst_dp {ρ : AM} {h : List O} {F R H : Hp} {d : D} {v : V} {ps : List PyData} (r : Rel G ρ h F R H) (e : pdLst h d = some ps) (q : RD G ρ h.length F d v) : Dp G.K H v (.list ps) ∧ SeqAt.shaped (.list ps) = true := by
  unfold pdLst at e
  cases e1 : pd h eqFuel d with
  | none => rw [e1] at e; cases e
  | some p' =>
    rw [e1] at e
    cases p' <;> simp at e
    obtain ⟨hs, e⟩ := e
    subst e
    exact ⟨dp_of r _ _ _ _ e1 q, hs⟩
theorem ixc_parts {f : List O → D → Option (List PyData)} {g : PyData → List PyData → Option Int} {ρ : AM} {h : List O} {F R : Hp} {Q : VK} {d : D} {ds : List D}
    (wp : Wp G (LD G) W0 R ρ h.length F (Res.of (ixcP f g d ds h)) [] Q) :
    ∃ y ps p j, ds = [y] ∧ f h d = some ps ∧ pdOne h y = some p ∧ g p ps = some j ∧ Wp G (LD G) W0 R ρ h.length F (.ok (.int j) h) [] Q := by
  match ds, wp with
  | [], wp => exact wp.elim
  | [y], wp =>
    simp only [ixcP] at wp
    cases e1 : f h d with
    | none => rw [e1] at wp; exact wp.elim
    | some ps =>
      cases e2 : pdOne h y with
      | none => rw [e1, e2] at wp; exact wp.elim
      | some p =>
        rw [e1, e2] at wp
        simp only at wp
        cases e3 : g p ps with
        | none => rw [e3] at wp; exact wp.elim
        | some j =>
          rw [e3] at wp
          exact ⟨y, ps, p, j, rfl, rfl, e2, e3, wp⟩
  | _ :: _ :: _, wp => exact wp.elim
theorem mt_tindexD (hK : X.K = G.K) (hu : X.A.units + 65 < cLine) : MtR X "tuple.index" (run1N G (indexP pdTup)) := by
  intro pins s σ H x xs v us Q I rx rs hq
  obtain ⟨ρ, h, F, R, d, ds, r, q1, q2, wp⟩ := hq
  obtain ⟨y, ps, p, j0, rfl, e1, e2, e3, wp⟩ := ixc_parts (g := fun p ps => (findE p ps 0).map fun j => ((j : Nat) : Int)) wp
  obtain ⟨j, e4, rfl⟩ := Option.map_eq_some_iff.mp e3
  obtain ⟨w, rfl, qw⟩ := rds1 q2
  obtain ⟨D1, s1⟩ := pdOne_dp r e2 qw
  obtain ⟨D2, s2⟩ := pdTup_dp r e1 q1
  rw [← hK] at D1 D2
  obtain ⟨u, rfl, ru⟩ := vals1 rs
  obtain ⟨bs, r1⟩ := Dp.reads I p w u D1 ru
  obtain ⟨z, _, hz, hzj, hno⟩ := findE_at p ps 0 j e4
  simp only [Nat.sub_zero] at hz hno
  have hxs : PyData.canLayAll0 ps = true := SeqAt.canLay_of_shaped s2
  have hroom : X.A.units + 1 + min (PyData.depthAll ps) p.depth < cLine := room_in_shaped s1 hu
  cases D2 with
  | tup hs ha =>
    rename_i a vs
    obtain rfl : v = Value.ref a := rx
    obtain ⟨its, rv, ⟨⟨cls, dd, data, sls⟩, ho, hc, n, hdt⟩, hlen⟩ := I.tuple hs
    simp only at hc hdt
    subst hc hdt
    obtain ⟨as, h4⟩ := Dp.readsAll I ps _ its ha rv
    have hn : its.length = ps.length := SeqAt.ReadsAll.length ps its as h4
    have hmap : its.map (SeqAt.readOf s.heap) = ps := SeqAt.readsAll_map ps its as hxs h4
    obtain ⟨hjd, _⟩ := List.getElem?_eq_some_iff.mp hz
    have hjl : j < its.length := by omega
    have hj : j < its.toArray.size := by simpa using hjl
    have at_ : ∀ (m : Nat) (hm : m < its.toArray.size) (z' : PyData), ps[m]? = some z' → SeqAt.readOf s.heap its.toArray[m] = z' := by
      intro m hm z' hz'
      have hml : m < its.length := by simpa using hm
      rw [← hmap, List.getElem?_map, List.getElem?_eq_getElem hml] at hz'
      have e1 : SeqAt.readOf s.heap its[m] = z' := Option.some.inj (show some (SeqAt.readOf s.heap its[m]) = some z' from hz')
      simpa using e1
    refine call_meets PySem.F.slot_tuple_index ⟨_, ho, rfl⟩ PySem.F.entry_tuple_index (PySem.F.args_tuple_index_2 _ _)
      (TI.tuple_indexAt a its.toArray n dd sls u (fun u => PyData.eqv (SeqAt.readOf s.heap u) p) j hj ?_ ?_) ⟨ho, SeqAt.items_eqAt (vs := its.toArray) (show ReadsAll s.heap its.toArray.toList ps as from h4) r1 hxs (SeqAt.canLay_of_shaped s1) hroom, ?_⟩
    · show PyData.eqv (SeqAt.readOf s.heap its.toArray[j]) p = true
      rw [at_ j hj z hz]
      exact hzj
    · intro m hm hmj
      have hmd : m < ps.length := by omega
      have hz' : ps[m]? = some ps[m] := List.getElem?_eq_getElem hmd
      show PyData.eqv (SeqAt.readOf s.heap its.toArray[m]) p = false
      rw [at_ m hm _ hz']
      exact hno m _ hmj hz'
    · exact ⟨.int (j : Nat), H, I.tok _, ⟨_, rfl⟩, wp_val r wp (.int _)⟩
theorem mt_lindexD (hK : X.K = G.K) (hu : X.A.units + 65 < cLine) : MtR X "list.index" (run1N G (indexP pdLst)) := by
  intro pins s σ H x xs v us Q I rx rs hq
  obtain ⟨ρ, h, F, R, d, ds, r, q1, q2, wp⟩ := hq
  obtain ⟨y, ps, p, j0, rfl, e1, e2, e3, wp⟩ := ixc_parts (g := fun p ps => (findE p ps 0).map fun j => ((j : Nat) : Int)) wp
  obtain ⟨j, e4, rfl⟩ := Option.map_eq_some_iff.mp e3
  obtain ⟨w, rfl, qw⟩ := rds1 q2
  obtain ⟨D1, s1⟩ := pdOne_dp r e2 qw
  obtain ⟨D2, s2⟩ := pdLst_dp r e1 q1
  rw [← hK] at D1 D2
  obtain ⟨z, _, hz, hzj, hno⟩ := findE_at p ps 0 j e4
  simp only [Nat.sub_zero] at hz hno
  have D3 := D2
  cases D2 with
  | lst hs ha => exact mt_indexD hu pins s σ H _ _ v us Q I rx rs ⟨_, w, p, ps, j, z, rfl, rfl, D3, D1, s2, s1, hz, hzj, hno, wp_val r wp (.int _)⟩
theorem mt_tcountD (hK : X.K = G.K) (hu : X.A.units + 65 < cLine) : MtR X "tuple.count" (run1N G (countP pdTup)) := by
  intro pins s σ H x xs v us Q I rx rs hq
  obtain ⟨ρ, h, F, R, d, ds, r, q1, q2, wp⟩ := hq
  obtain ⟨y, ps, p, j0, rfl, e1, e2, e3, wp⟩ := ixc_parts (g := fun p ps => some ((ps.countP fun z => PyData.eqv z p : Nat) : Int)) wp
  cases e3
  obtain ⟨w, rfl, qw⟩ := rds1 q2
  obtain ⟨D1, s1⟩ := pdOne_dp r e2 qw
  obtain ⟨D2, s2⟩ := pdTup_dp r e1 q1
  rw [← hK] at D1 D2
  obtain ⟨u, rfl, ru⟩ := vals1 rs
  obtain ⟨bs, r1⟩ := Dp.reads I p w u D1 ru
  have hxs : PyData.canLayAll0 ps = true := SeqAt.canLay_of_shaped s2
  have hroom : X.A.units + 1 + min (PyData.depthAll ps) p.depth < cLine := room_in_shaped s1 hu
  cases D2 with
  | tup hs ha =>
    rename_i a vs
    obtain rfl : v = Value.ref a := rx
    obtain ⟨its, rv, ⟨⟨cls, dd, data, sls⟩, ho, hc, n, hdt⟩, hlen⟩ := I.tuple hs
    simp only at hc hdt
    subst hc hdt
    obtain ⟨as, h4⟩ := Dp.readsAll I ps _ its ha rv
    have hmap : its.map (SeqAt.readOf s.heap) = ps := SeqAt.readsAll_map ps its as hxs h4
    refine call_meets PySem.F.slot_tuple_count ⟨_, ho, rfl⟩ PySem.F.entry_tuple_count (PySem.F.args_tuple_count_2 _ _)
      (SeqAt.tuple_countAt a its.toArray n dd sls u (fun u => PyData.eqv (SeqAt.readOf s.heap u) p)) ⟨ho, SeqAt.items_eqAt (vs := its.toArray) (show ReadsAll s.heap its.toArray.toList ps as from h4) r1 hxs (SeqAt.canLay_of_shaped s1) hroom, ?_⟩
    refine ⟨.int _, H, I.tok _, ⟨_, rfl⟩, ?_⟩
    have ec : List.countP (fun u => PyData.eqv (SeqAt.readOf s.heap u) p) its.toArray.toList = ps.countP fun z => PyData.eqv z p := by
      rw [← hmap, List.countP_map]
      rfl
    rw [ec]
    exact wp_val r wp (.int _)
theorem mt_lcountD (hK : X.K = G.K) (hu : X.A.units + 65 < cLine) : MtR X "list.count" (run1N G (countP pdLst)) := by
  intro pins s σ H x xs v us Q I rx rs hq
  obtain ⟨ρ, h, F, R, d, ds, r, q1, q2, wp⟩ := hq
  obtain ⟨y, ps, p, j0, rfl, e1, e2, e3, wp⟩ := ixc_parts (g := fun p ps => some ((ps.countP fun z => PyData.eqv z p : Nat) : Int)) wp
  cases e3
  obtain ⟨w, rfl, qw⟩ := rds1 q2
  obtain ⟨D1, s1⟩ := pdOne_dp r e2 qw
  obtain ⟨D2, s2⟩ := pdLst_dp r e1 q1
  rw [← hK] at D1 D2
  obtain ⟨u, rfl, ru⟩ := vals1 rs
  obtain ⟨bs, r1⟩ := Dp.reads I p w u D1 ru
  have hxs : PyData.canLayAll0 ps = true := SeqAt.canLay_of_shaped s2
  have hroom : X.A.units + 1 + min (PyData.depthAll ps) p.depth < cLine := room_in_shaped s1 hu
  cases D2 with
  | lst hs ha =>
    rename_i a vs
    obtain rfl : v = Value.ref a := rx
    obtain ⟨its, rv, ⟨⟨cls, dd, data, sls⟩, n, ho, hc, hdn, hdt⟩, hlen⟩ := I.list hs
    simp only at hc hdt
    subst hc hdt
    obtain ⟨as, h4⟩ := Dp.readsAll I ps _ its ha rv
    have hmap : its.map (SeqAt.readOf s.heap) = ps := SeqAt.readsAll_map ps its as hxs h4
    refine call_meets PySem.F.slot_list_count ⟨_, ho, rfl⟩ PySem.F.entry_list_count (PySem.F.args_list_count_2 _ _)
      (SeqAt.list_countAt a its.toArray n dd sls u (fun u => PyData.eqv (SeqAt.readOf s.heap u) p)) ⟨ho, SeqAt.items_eqAt (vs := its.toArray) (show ReadsAll s.heap its.toArray.toList ps as from h4) r1 hxs (SeqAt.canLay_of_shaped s1) hroom, ?_⟩
    refine ⟨.int _, H, I.tok _, ⟨_, rfl⟩, ?_⟩
    have ec : List.countP (fun u => PyData.eqv (SeqAt.readOf s.heap u) p) its.toArray.toList = ps.countP fun z => PyData.eqv z p := by
      rw [← hmap, List.countP_map]
      rfl
    rw [ec]
    exact wp_val r wp (.int _)
def tbAppend : MTab := fun T => if T = "list" then some ("list.append", appendP) else none
def tbExtend : MTab := fun T => if T = "list" then some ("list.extend", extendP) else none
def tbPop : MTab := fun T => if T = "list" then some ("list.pop", popP) else none
def tbIndex : MTab := fun T => if T = "tuple" then some ("tuple.index", indexP pdTup) else if T = "list" then some ("list.index", indexP pdLst) else if T = "str" then some ("str.index", sindexP) else none
def tbCount : MTab := fun T => if T = "tuple" then some ("tuple.count", countP pdTup) else if T = "list" then some ("list.count", countP pdLst) else none
def tbJoin : MTab := fun T => if T = "str" then some ("str.join", joinP) else none
def tbSplit (lv : Bool) : MTab := fun T => if T = "str" then some ("str.split", splitP lv) else none
def tbGet : MTab := fun T => if T = "dict" then some ("dict.get", getP) else none
theorem ok_append : ∀ T id f, tbAppend T = some (id, f) → MOk X G "append" T id f := fun T id f e => by
  unfold tbAppend at e
  split at e
  · rename_i h; subst h; cases e; exact ⟨PySem.F.plainAttrs_list, PySem.F.slot_list_append, PySem.F.type_list_append, mt_appendD⟩
  · cases e
theorem ok_extend : ∀ T id f, tbExtend T = some (id, f) → MOk X G "extend" T id f := fun T id f e => by
  unfold tbExtend at e
  split at e
  · rename_i h; subst h; cases e; exact ⟨PySem.F.plainAttrs_list, PySem.F.slot_list_extend, PySem.F.type_list_extend, mt_extendD⟩
  · cases e
theorem ok_pop : ∀ T id f, tbPop T = some (id, f) → MOk X G "pop" T id f := fun T id f e => by
  unfold tbPop at e
  split at e
  · rename_i h; subst h; cases e; exact ⟨PySem.F.plainAttrs_list, PySem.F.slot_list_pop, PySem.F.type_list_pop, mt_popD⟩
  · cases e
theorem ok_index (hK : X.K = G.K) (hu : X.A.units + 65 < cLine) : ∀ T id f, tbIndex T = some (id, f) → MOk X G "index" T id f := fun T id f e => by
  unfold tbIndex at e
  split at e
  · rename_i h; subst h; cases e; exact ⟨PySem.F.plainAttrs_tuple, PySem.F.slot_tuple_index, PySem.F.type_tuple_index, mt_tindexD hK hu⟩
  · split at e
    · rename_i h; subst h; cases e; exact ⟨PySem.F.plainAttrs_list, PySem.F.slot_list_index, PySem.F.type_list_index, mt_lindexD hK hu⟩
    · split at e
      · rename_i h; subst h; cases e; exact ⟨PySem.F.plainAttrs_str, PySem.F.slot_str_index, PySem.F.type_str_index, mt_sindexD⟩
      · cases e
theorem ok_count (hK : X.K = G.K) (hu : X.A.units + 65 < cLine) : ∀ T id f, tbCount T = some (id, f) → MOk X G "count" T id f := fun T id f e => by
  unfold tbCount at e
  split at e
  · rename_i h; subst h; cases e; exact ⟨PySem.F.plainAttrs_tuple, PySem.F.slot_tuple_count, PySem.F.type_tuple_count, mt_tcountD hK hu⟩
  · split at e
    · rename_i h; subst h; cases e; exact ⟨PySem.F.plainAttrs_list, PySem.F.slot_list_count, PySem.F.type_list_count, mt_lcountD hK hu⟩
    · cases e
theorem ok_join (hK : X.K = G.K) : ∀ T id f, tbJoin T = some (id, f) → MOk X G "join" T id f := fun T id f e => by
  unfold tbJoin at e
  split at e
  · rename_i h; subst h; cases e; exact ⟨PySem.F.plainAttrs_str, PySem.F.slot_str_join, PySem.F.type_str_join, mt_joinD hK⟩
  · cases e
theorem ok_split (lv : Bool) : ∀ T id f, tbSplit lv T = some (id, f) → MOk X G "split" T id f := fun T id f e => by
  unfold tbSplit at e
  split at e
  · rename_i h; subst h; cases e; exact ⟨PySem.F.plainAttrs_str, PySem.F.slot_str_split, PySem.F.type_str_split, mt_splitD lv⟩
  · cases e
theorem ok_get (hu : X.A.units + 65 < cLine) : ∀ T id f, tbGet T = some (id, f) → MOk X G "get" T id f := fun T id f e => by
  unfold tbGet at e
  split at e
  · rename_i h; subst h; cases e; exact ⟨PySem.F.plainAttrs_dict, PySem.F.slot_dict_get, PySem.F.type_dict_get, mt_getD hu⟩
  · cases e
end
end Lo
namespace Lo
open PySem PySem.Spec PyProof.Rows L2
inductive Out where
  | nx (s : Sl) (h : List O)
  | rt (d : D) (h : List O)
  | bk (s : Sl) (h : List O)
  | ct (s : Sl) (h : List O)
  | ex (c : Nat) (fs : List (Str × D)) (s : Sl) (h : List O)
  | no
abbrev Sc := Sl → List O → Out
def WpS (G : GI) (W : WX) (R : Hp) (ρ : AM) (m : Nat) (F : Hp) (o : Out) (E : Ends) : Prop :=
  match o with
  | .nx s h => ∀ ρ' F' σ' H', Ext ρ m F ρ' h.length F' → Rel G ρ' h F' R H' → SRel G ρ' h.length F' s σ' → E.nx σ' H'
  | .rt d h => ∀ ρ' F' v H', Ext ρ m F ρ' h.length F' → Rel G ρ' h F' R H' → RD G ρ' h.length F' d v → E.rt v H'
  | .bk s h => ∀ ρ' F' σ' H', Ext ρ m F ρ' h.length F' → Rel G ρ' h F' R H' → SRel G ρ' h.length F' s σ' → E.bk σ' H'
  | .ct s h => ∀ ρ' F' σ' H', Ext ρ m F ρ' h.length F' → Rel G ρ' h F' R H' → SRel G ρ' h.length F' s σ' → E.ct σ' H'
  | .ex c fs s h => ∀ ρ' F' cls dd σ' H', Ext ρ m F ρ' h.length F' → Rel G ρ' h F' R H' → SRel G ρ' h.length F' s σ' → RX G ρ' h.length F' c fs cls dd → W cls dd σ' H'
  | .no => False
def rdS (G : GI) (W : WX) (a : Sc) : TS := fun E σ H => ∃ ρ s h F R, Rel G ρ h F R H ∧ SRel G ρ h.length F s σ ∧ WpS G W R ρ h.length F (a s h) E
theorem WpS.rebase {G : GI} {W : WX} {R : Hp} {ρ ρ1 : AM} {m m1 : Nat} {F F1 : Hp} {o : Out} {E : Ends} (e : Ext ρ m F ρ1 m1 F1) (h : WpS G W R ρ m F o E) : WpS G W R ρ1 m1 F1 o E := by
  cases o with
  | nx s h' => exact fun ρ' F' σ' H' x => h ρ' F' σ' H' (e.trans x)
  | rt d h' => exact fun ρ' F' v H' x => h ρ' F' v H' (e.trans x)
  | bk s h' => exact fun ρ' F' σ' H' x => h ρ' F' σ' H' (e.trans x)
  | ct s h' => exact fun ρ' F' σ' H' x => h ρ' F' σ' H' (e.trans x)
  | ex c fs s h' => exact fun ρ' F' cls dd σ' H' x => h ρ' F' cls dd σ' H' (e.trans x)
  | no => exact h
def Res.bindS {α : Type} (s : Sl) : Res α → (α → List O → Out) → Out
  | .ok a h, k => k a h
  | .ex c fs h, _ => .ex c fs s h
  | .no, _ => .no
section
variable {α β : Type} {G : GI} {L : (ρ : AM) → (m : Nat) → (F : Hp) → α → β → Prop} {W : WX}
theorem stepS {ρ : AM} {h : List O} {F R H : Hp} {s : Sl} {σ : L2.St} {a : Sl → List O → Res α} {k : α → List O → Out} {E : Ends} {N : β → Hp → Prop}
    (r : Rel G ρ h F R H) (sr : SRel G ρ h.length F s σ) (wp : WpS G W R ρ h.length F ((a s h).bindS s k) E)
    (hk : ∀ ρ' h' F' d v H', Ext ρ h.length F ρ' h'.length F' → Rel G ρ' h' F' R H' → L ρ' h'.length F' d v → WpS G W R ρ' h'.length F' (k d h') E → N v H') : rdG G L W a σ H N := by
  refine ⟨ρ, s, h, F, R, r, sr, ?_⟩
  cases e : a s h with
  | ok d h1 =>
    rw [e] at wp
    intro ρ1 F1 v H1 x r1 q
    exact hk ρ1 h1 F1 d v H1 x r1 q (WpS.rebase x wp)
  | ex c fs h1 =>
    rw [e] at wp
    exact fun ρ' F' cls dd H' x r' q => wp ρ' F' cls dd σ H' x r' (sr.mono x) q
  | no => rw [e] at wp; exact wp
end
def scNx : Sc := .nx
def scBk : Sc := .bk
def scCt : Sc := .ct
def scNo : Sc := fun _ _ => .no
def Out.andThen (o : Out) (b : Sc) : Out := match o with
  | .nx s h => b s h
  | o => o
def scSeq (a b : Sc) : Sc := fun s h => (a s h).andThen b
def scExpr (A : Ac) : Sc := fun s h => (A s h).bindS s fun _ h1 => .nx s h1
def scRet (A : Ac) : Sc := fun s h => (A s h).bindS s fun d h1 => .rt d h1
def scRetN : Sc := fun _ h => .rt .non h
def scIf (T : AcB) (a b : Sc) : Sc := fun s h => (T s h).bindS s fun k h1 => if k = true then a s h1 else b s h1
section
variable {X : Cx} {G : GI} {W : WX} {pos : Pos} {e c : Expr} {st : Stmt} {sts rest : List Stmt} {A : Ac} {T : AcB} {a b : Sc}
theorem ps_no : PS X st (rdS G W scNo) := ⟨fun _ _ _ _ _ _ ⟨_, _, _, _, _, _, _, h⟩ => h.elim⟩
theorem rdS_nx {E : Ends} {σ : L2.St} {H : Hp} (h : rdS G W scNx E σ H) : E.nx σ H := by
  obtain ⟨ρ, s, h, F, R, r, sr, wp⟩ := h
  exact wp ρ F σ H (Ext.refl _ _ _) r sr
theorem pss_nilD : PSs X [] (rdS G W scNx) := pss_nil.weakL fun _ _ _ => rdS_nx
theorem ps_passD : PS X (.Pass pos) (rdS G W scNx) := ps_pass.weakL fun _ _ _ => rdS_nx
theorem ps_breakD : PS X (.Break pos) (rdS G W scBk) := ps_break.weakL fun E σ H ⟨ρ, s, h, F, R, r, sr, wp⟩ => wp ρ F σ H (Ext.refl _ _ _) r sr
theorem ps_contD : PS X (.Continue pos) (rdS G W scCt) := ps_continue.weakL fun E σ H ⟨ρ, s, h, F, R, r, sr, wp⟩ => wp ρ F σ H (Ext.refl _ _ _) r sr
theorem seq_of {E : Ends} {σ : L2.St} {H : Hp} (h : rdS G W (scSeq a b) E σ H) : tSeq (rdS G W a) (rdS G W b) E σ H := by
  obtain ⟨ρ, s, h, F, R, r, sr, wp⟩ := h
  refine ⟨ρ, s, h, F, R, r, sr, ?_⟩
  unfold scSeq at wp
  cases e : a s h with
  | nx s1 h1 =>
    rw [e] at wp
    exact fun ρ' F' σ' H' x r' sr' => ⟨ρ', s1, h1, F', R, r', sr', WpS.rebase x wp⟩
  | _ => rw [e] at wp; exact wp
theorem pss_consD (h1 : PS X st (rdS G W a)) (h2 : PSs X rest (rdS G W b)) : PSs X (st :: rest) (rdS G W (scSeq a b)) := (pss_cons h1 h2).weakL fun _ _ _ => seq_of
theorem ps_exprD (he : PE X e (rd G W A)) (hs : swapsWith e none pos.line X.env = pure false) : PS X (.Expr e pos) (rdS G W (scExpr A)) :=
  (ps_expr he hs).weakL fun E σ H ⟨ρ, s, h, F, R, r, sr, wp⟩ => stepS (L := LD G) r sr wp fun ρ1 h1 F1 d v H1 x r1 q wp1 => wp1 ρ1 F1 σ H1 (Ext.refl _ _ _) r1 (sr.mono x)
theorem ps_docD {x j pos pos'} : PS X (.Expr (.Constant (.str x) j pos) pos') (rdS G W scNx) := ps_doc.weakL fun _ _ _ => rdS_nx
theorem ps_retD (he : PE X e (rd G W A)) : PS X (.Return (some e) pos) (rdS G W (scRet A)) :=
  (ps_ret he).weakL fun E σ H ⟨ρ, s, h, F, R, r, sr, wp⟩ => stepS (L := LD G) r sr wp fun ρ1 h1 F1 d v H1 x r1 q wp1 => wp1 ρ1 F1 v H1 (Ext.refl _ _ _) r1 q
theorem ps_retND : PS X (.Return none pos) (rdS G W scRetN) := ps_retN.weakL fun E σ H ⟨ρ, s, h, F, R, r, sr, wp⟩ => wp ρ F .non H (Ext.refl _ _ _) r .non
theorem ps_ifD {x y : List Stmt} (hc : PT X c (rdB G W T)) (ha : PSs X x (rdS G W a)) (hb : PSs X y (rdS G W b)) : PS X (.If c x y pos) (rdS G W (scIf T a b)) :=
  (ps_if hc ha hb).weakL fun E σ H ⟨ρ, s, h, F, R, r, sr, wp⟩ => stepS (L := LB) r sr wp fun ρ1 h1 F1 k k' H1 x r1 q wp1 => by
    have q : k = k' := q
    subst q
    cases k with
    | true => rw [if_pos rfl] at wp1 ⊢; exact ⟨ρ1, s, h1, F1, R, r1, sr.mono x, wp1⟩
    | false => rw [if_neg (by decide)] at wp1 ⊢; exact ⟨ρ1, s, h1, F1, R, r1, sr.mono x, wp1⟩
end
def Out.loop (o : Out) (k : Sc) : Out := match o with
  | .nx s h => k s h
  | .ct s h => k s h
  | .bk s h => .nx s h
  | o => o
def whl (T : AcB) (a : Sc) : Nat → Sc
  | 0, _, _ => .no
  | n + 1, s, h => (T s h).bindS s fun k h1 => if k = true then (a s h1).loop (whl T a n) else .nx s h1
def whlFuel : Nat := 1000000
def scWhile (T : AcB) (a : Sc) : Sc := whl T a whlFuel
section
variable {X : Cx} {G : GI} {W : WX} {pos : Pos} {c : Expr} {sts : List Stmt} {T : AcB} {a : Sc}
theorem loop_of {ρ : AM} {h : List O} {F R H : Hp} {s : Sl} {σ : L2.St} {k : Sc} {E : Ends} {N : L2.St → Hp → Prop} (r : Rel G ρ h F R H) (sr : SRel G ρ h.length F s σ) (wp : WpS G W R ρ h.length F ((a s h).loop k) E)
    (hN : ∀ ρ' s' h' F' σ' H', Rel G ρ' h' F' R H' → SRel G ρ' h'.length F' s' σ' → WpS G W R ρ' h'.length F' (k s' h') E → N σ' H') : rdS G W a { E with nx := N, ct := N, bk := E.nx } σ H := by
  refine ⟨ρ, s, h, F, R, r, sr, ?_⟩
  cases e : a s h with
  | nx s1 h1 => rw [e] at wp; exact fun ρ' F' σ' H' x r' sr' => hN ρ' s1 h1 F' σ' H' r' sr' (WpS.rebase x wp)
  | ct s1 h1 => rw [e] at wp; exact fun ρ' F' σ' H' x r' sr' => hN ρ' s1 h1 F' σ' H' r' sr' (WpS.rebase x wp)
  | bk s1 h1 => rw [e] at wp; exact wp
  | rt d h1 => rw [e] at wp; exact wp
  | ex c fs s1 h1 => rw [e] at wp; exact wp
  | no => rw [e] at wp; exact wp
theorem ps_whileD (hp : PassesOwn (model X.prog X.w) X.A X.env X.xe) (hc : PT X c (rdB G W T)) (hb : PSs X sts (rdS G W a)) : PS X (.While c sts [] pos) (rdS G W (scWhile T a)) :=
  (ps_while hp hc hb).weakL fun E σ H ⟨ρ, s, h, F, R, r, sr, wp⟩ => by
    refine ⟨fun m σ H => ∃ ρ s h F, Rel G ρ h F R H ∧ SRel G ρ h.length F s σ ∧ WpS G W R ρ h.length F (whl T a m s h) E, ⟨_, ρ, s, h, F, r, sr, wp⟩, ?_⟩
    rintro m σ H ⟨ρ, s, h, F, r, sr, wp⟩
    cases m with
    | zero => exact wp.elim
    | succ n =>
      refine stepS (L := LB) r sr wp fun ρ1 h1 F1 k k' H1 x r1 q wp1 => ?_
      have q : k = k' := q
      subst q
      cases k with
      | false => rw [if_neg (by decide)] at wp1 ⊢; exact wp1 ρ1 F1 σ H1 (Ext.refl _ _ _) r1 (sr.mono x)
      | true =>
        rw [if_pos rfl] at wp1 ⊢
        refine ⟨fun σ H => ∃ ρ s h F, Rel G ρ h F R H ∧ SRel G ρ h.length F s σ ∧ WpS G W R ρ h.length F (whl T a n s h) E, fun σ' H' w => ⟨n, Nat.lt_succ_self n, w⟩, ?_⟩
        exact loop_of r1 (sr.mono x) wp1 fun ρ' s' h' F' σ' H' r' sr' wp' => ⟨ρ', s', h', F', r', sr', wp'⟩
end
inductive Tgt where
  | nm (i : Nat)
  | tp (ts : List Tgt)
mutual
def asgT : Tgt → D → Sl → Option Sl
  | .nm i, d, s => some (s.set i (some d))
  | .tp ts, .tup ds, s => asgTs ts ds s
  | _, _, _ => none
def asgTs : List Tgt → List D → Sl → Option Sl
  | [], [], s => some s
  | t :: ts, d :: ds, s => match asgT t d s with
    | some s' => asgTs ts ds s'
    | none => none
  | _, _, _ => none
end
mutual
def Tgt.sl : Tgt → List Nat
  | .nm i => [i]
  | .tp ts => slTs ts
def slTs : List Tgt → List Nat
  | [] => []
  | t :: ts => t.sl ++ slTs ts
end
def Same (is : List Nat) (σ σ' : L2.St) : Prop := σ'.length = σ.length ∧ ∀ i, i ∉ is → σ'[i]? = σ[i]?
theorem Same.refl (is : List Nat) (σ : L2.St) : Same is σ σ := ⟨rfl, fun _ _ => rfl⟩
theorem Same.trans {is js : List Nat} {a b c : L2.St} (x : Same is a b) (y : Same js b c) : Same (is ++ js) a c :=
  ⟨y.1.trans x.1, fun i hi => by simp at hi; exact (y.2 i hi.2).trans (x.2 i hi.1)⟩
theorem Same.wipe {is vs : List Nat} {σ σ' : L2.St} (x : Same is σ σ') (h : ∀ i ∈ is, i ∈ vs) : L2.wipe σ' vs = L2.wipe σ vs := by
  have at_ : ∀ (σ : L2.St) (vs : List Nat) (i : Nat), (L2.wipe σ vs)[i]? = if i ∈ vs ∧ i < σ.length then some none else σ[i]? := by
    intro σ vs
    induction vs with
    | nil => intro i; simp [L2.wipe]
    | cons v vs ih =>
      intro i
      unfold L2.wipe
      by_cases hv : v = i
      · subst hv
        by_cases hl : v < σ.length
        · rw [List.getElem?_set_self (by rw [L2.wipe_length]; exact hl)]
          simp [hl]
        · rw [List.getElem?_eq_none (by rw [List.length_set, L2.wipe_length]; omega)]
          rw [if_neg (by omega), List.getElem?_eq_none (by omega)]
      · rw [List.getElem?_set_ne hv, ih i]
        have : (i ∈ v :: vs) ↔ i ∈ vs := by simp [Ne.symm hv]
        simp only [this]
  refine List.ext_getElem? fun i => ?_
  rw [at_, at_, x.1]
  by_cases hi : i ∈ vs ∧ i < σ.length
  · rw [if_pos hi, if_pos hi]
  · rw [if_neg hi, if_neg hi]
    by_cases hm : i ∈ is
    · have hl : ¬ i < σ.length := fun q => hi ⟨h i hm, q⟩
      rw [List.getElem?_eq_none (by rw [x.1]; omega), List.getElem?_eq_none (by omega)]
    · exact x.2 i hm
def rdT (G : GI) (t : Tgt) : TG := fun v σ H Q => ∃ ρ h F R d s s', Rel G ρ h F R H ∧ RD G ρ h.length F d v ∧ SRel G ρ h.length F s σ ∧ asgT t d s = some s' ∧ ∀ σ', SRel G ρ h.length F s' σ' → Same t.sl σ σ' → Q σ' H
def rdTs (G : GI) (t : List Tgt) : TGs := fun vs σ H Q => ∃ ρ h F R ds s s', Rel G ρ h F R H ∧ RDs G ρ h.length F ds vs ∧ SRel G ρ h.length F s σ ∧ asgTs t ds s = some s' ∧ ∀ σ', SRel G ρ h.length F s' σ' → Same (slTs t) σ σ' → Q σ' H
section
variable {X : Cx} {G : GI} {pos : Pos}
theorem _root_.L2.PGs.weakL {X : Cx} {e : List Expr} {t t' : TGs} (h : PGs X e t) (i : ∀ v σ H Q, t' v σ H Q → t v σ H Q) : PGs X e t' := ⟨fun pins s σ H v u Q I r q => h.run pins s σ H v u Q I r (i v σ H Q q)⟩
theorem pg_nmD {i : Nat} {x : Str} (hN : X.N.Nodup) (hi : X.N[i]? = some x) (hx : Loc X.env.scope x) (hf : X.fn x = true ∨ X.env.scope.names.lookup x = some .local) : PG X (.Name x pos) (rdT G (.nm i)) :=
  (pg_name hN hi hx hf).weakL fun v σ H Q ⟨ρ, h, F, R, d, s, s', r, q, sr, e, k⟩ => by
    simp only [asgT] at e
    cases e
    exact k _ (sr.set q) ⟨List.length_set, fun j hj => by
      simp [Tgt.sl] at hj
      exact List.getElem?_set_ne (Ne.symm hj)⟩
theorem pgs_nilD : PGs X [] (rdTs G []) := pgs_nil.weakL fun v σ H Q ⟨ρ, h, F, R, d, s, s', r, q, sr, e, k⟩ => by
  cases q with
  | nil => simp only [asgTs] at e; cases e; exact ⟨rfl, k _ sr (Same.refl _ _)⟩
  | cons _ _ => simp [asgTs] at e
theorem pgs_consD {e : Expr} {es : List Expr} {t : Tgt} {ts : List Tgt} (h1 : PG X e (rdT G t)) (h2 : PGs X es (rdTs G ts)) (hs : (assignEach (e :: es) X.env).map (·.2) = assign e X.env :: (assignEach es X.env).map (·.2)) : PGs X (e :: es) (rdTs G (t :: ts)) :=
  (pgs_cons h1 h2 hs).weakL fun v σ H Q ⟨ρ, h, F, R, d, s, s', r, q, sr, e, k⟩ => by
    cases q with
    | nil => simp [asgTs] at e
    | @cons d0 v0 ds vs q1 q2 =>
      simp only [asgTs] at e
      cases e1 : asgT t d0 s with
      | none => rw [e1] at e; simp at e
      | some s1 =>
        rw [e1] at e
        simp only at e
        exact ⟨v0, vs, rfl, ρ, h, F, R, d0, s, s1, r, q1, sr, e1, fun σ1 sr1 x1 => ⟨ρ, h, F, R, ds, s1, s', r, q2, sr1, e, fun σ2 sr2 x2 => k σ2 sr2 (by simp only [slTs]; exact x1.trans x2)⟩⟩
theorem asgTs_len : ∀ {ts : List Tgt} {ds : List D} {s s' : Sl}, asgTs ts ds s = some s' → ds.length = ts.length
  | [], [], s, s', e => rfl
  | t :: ts, d :: ds, s, s', e => by
    simp only [asgTs] at e
    cases e1 : asgT t d s with
    | none => rw [e1] at e; simp at e
    | some s1 => rw [e1] at e; simp only at e; simp [asgTs_len e]
  | [], _ :: _, s, s', e => by simp [asgTs] at e
  | _ :: _, [], s, s', e => by simp [asgTs] at e
theorem pg_tupT {es : List Expr} {k : Nat} {ts : List Tgt} (hc : X.calm = true) (h : PGs X es (rdTs G ts)) (hn : (assignEach es X.env).length = ts.length) (hst : (assignEach es X.env).findIdx? (·.1) = none) : PG X (.Tuple es k pos) (gTup X.K ts.length (rdTs G ts)) :=
  pg_tup hc h hn hst
theorem pg_tupD {es : List Expr} {k : Nat} {ts : List Tgt} (hK : X.K = G.K) (hc : X.calm = true) (h : PGs X es (rdTs G ts)) (hn : (assignEach es X.env).length = ts.length) (hst : (assignEach es X.env).findIdx? (·.1) = none) : PG X (.Tuple es k pos) (rdT G (.tp ts)) :=
  (pg_tup hc h hn hst).weakL fun v σ H Q ⟨ρ, h, F, R, d, s, s', r, q, sr, e, k⟩ => by
    cases d with
    | tup ds =>
      simp only [asgT] at e
      cases q with
      | tup q1 q2 => exact ⟨_, _, rfl, by rw [hK]; exact (r.fr.tupAt q1).sq, by rw [← q2.length]; exact asgTs_len e, ρ, h, F, R, ds, s, s', r, q2, sr, e, k⟩
    | _ => simp [asgT] at e
end
def scSet (t : Tgt) (A : Ac) : Sc := fun s h => (A s h).bindS s fun d h1 => match asgT t d s with
  | some s' => .nx s' h1
  | none => .no
def scPar (ts : List Tgt) (L : AcL) : Sc := fun s h => (L s h).bindS s fun ds h1 => match asgTs ts ds s with
  | some s' => .nx s' h1
  | none => .no
section
variable {X : Cx} {G : GI} {W : WX} {pos : Pos} {e tg : Expr} {A : Ac} {L : AcL} {t : Tgt}
theorem set_of {E : Ends} {σ : L2.St} {H : Hp} {te : TE} (hte : ∀ Q, rd G W A σ H Q → te σ H Q) (h : rdS G W (scSet t A) E σ H) : tAsg te (rdT G t) E σ H := by
  obtain ⟨ρ, s, h, F, R, r, sr, wp⟩ := h
  refine hte _ (stepS (L := LD G) r sr wp fun ρ1 h1 F1 d v H1 x r1 q wp1 => ?_)
  cases e1 : asgT t d s with
  | none => rw [e1] at wp1; exact wp1.elim
  | some s' =>
    rw [e1] at wp1
    exact ⟨ρ1, h1, F1, R, d, s, s', r1, q, sr.mono x, e1, fun σ' sr' _ => wp1 ρ1 F1 σ' H1 (Ext.refl _ _ _) r1 sr'⟩
theorem ps_asgD (he : PE X e (rd G W A)) (hg : PG X tg (rdT G t)) (hs : swapsWithSole [tg] e pos.line X.env = pure false) (hw : swappedStores [tg] e X.env = pure none) (h1 : (assignEach [tg] X.env).map (·.2) = [assign tg X.env]) :
    PS X (.Assign [tg] e pos) (rdS G W (scSet t A)) := (ps_asg he hg hs hw h1).weakL fun E σ H h => set_of (fun _ z => z) h
theorem rds2' {ρ : AM} {m : Nat} {F : Hp} {ts : List Tgt} {ds : List D} {vs : List V} {s s' : Sl} {i j : Nat} (q : RDs G ρ m F ds vs) (e : asgTs [.nm i, .nm j] ds s = some s') : ∃ d d' v v', ds = [d, d'] ∧ vs = [v, v'] ∧ RD G ρ m F d v ∧ RD G ρ m F d' v' ∧ s' = (s.set i (some d)).set j (some d') := by
  have hl := asgTs_len e
  match ds, q, hl, e with
  | [d, d'], .cons a (.cons b .nil), _, e =>
    simp only [asgTs, asgT] at e
    cases e
    exact ⟨d, d', _, _, rfl, rfl, a, b, rfl⟩
theorem ps_parD {i j : Nat} {x y : Str} {a b : Expr} {px py pt : Pos} {kt k2 pt2} (hc : X.calm = true) (hN : X.N.Nodup) (hi : X.N[i]? = some x) (hj : X.N[j]? = some y) (hij : i ≠ j)
    (hx : X.env.scope.names.lookup x = some .local) (hy : X.env.scope.names.lookup y = some .local) (ha : PA X [a, b] (rdA G W L))
    (hw : swappedStores [.Tuple [.Name x px, .Name y py] kt pt] (.Tuple [a, b] k2 pt2) X.env = pure (some [x, y]))
    (hs : swapsWithSole [.Tuple [.Name x px, .Name y py] kt pt] (.Tuple [a, b] k2 pt2) pos.line X.env = pure false) :
    PS X (.Assign [.Tuple [.Name x px, .Name y py] kt pt] (.Tuple [a, b] k2 pt2) pos) (rdS G W (scPar [.nm i, .nm j] L)) :=
  (ps_par hc hN hi hj hij hx hy ha hw hs).weakL fun E σ H ⟨ρ, s, h, F, R, r, sr, wp⟩ => stepS (L := LDs G) r sr wp fun ρ1 h1 F1 ds vs H1 x1 r1 q wp1 => by
    cases e1 : asgTs [.nm i, .nm j] ds s with
    | none => rw [e1] at wp1; exact wp1.elim
    | some s' =>
      rw [e1] at wp1
      obtain ⟨d, d', v, v', rfl, rfl, q1, q2, es⟩ := rds2' (ts := []) q e1
      subst es
      exact ⟨v, v', rfl, wp1 ρ1 F1 _ H1 (Ext.refl _ _ _) r1 (((sr.mono x1).set q1).set q2)⟩
end
end Lo
namespace PySem
open Sem (wp)
theorem lo_meets_enumerate_new1 {v : Value} {o : Obj} {H : Heap → Prop} (B : Begins v o H) :
    Meets (Builtin.«enumerate.__new__» ⟨[.type "enumerate", v], []⟩) (fun _ R s => H s.heap ∧
      R (.ok (.ret (.ref (s.heap.push o).objs.size))) { s with heap := (s.heap.push o).push { cls := .type "enumerate", data := .fields #[.none, .bool false, .ref s.heap.objs.size, rawInt 0, .none, .none] } }) :=
  .of_wp fun prog w A R s h => by
    obtain ⟨hp, g, d, tk, os⟩ := s; obtain ⟨h1, h⟩ := h
    have hsub := sub_enumerate
    have q1 : ∀ {A' : Around} {E : Value → Shared → Prop} {Q : Value → Shared → Prop}, Q (.ref hp.objs.size) ⟨hp.push o, g, d, tk, os⟩ → wpAny (model prog w) A' (pyIter v) Q E ⟨hp, g, d, tk, os⟩ :=
      fun q => B.iter prog w _ _ ⟨hp, g, d, tk, os⟩ _ h1 q
    wp_walk using q1
    refine wpAny_stack_any fun st => wpAny_pure ?_
    split
    · rename_i c _ _ _ _ _
      cases (c == Value.type "enumerate")
      · wp_walk using q1
        exact ⟨_, rfl, h⟩
      · wp_walk using q1
        exact ⟨_, rfl, h⟩
    · wp_walk using q1
      exact ⟨_, rfl, h⟩
theorem lo_enum_begins {prog : Program} {w : World} {A : Around} {E : Value → Shared → Prop} {s : Shared} {v : Value} {o : Obj} {H : Heap → Prop} {Q : Value → Shared → Prop} (B : Begins v o H) (h1 : H s.heap)
    (h : ∀ h', IsEnum h' (s.heap.objs.size + 1) s.heap.objs.size 0 .none → h'.get? s.heap.objs.size = some o → h'.objs.size = s.heap.objs.size + 2 →
      (∀ b o, s.heap.get? b = some o → h'.get? b = some o) → Q (.ref (s.heap.objs.size + 1)) { s with heap := h' }) :
    wpAny (model prog w) A (call (.type "enumerate") [v]) Q E s := by
  refine callType_new F.called_enumerate (by decide) (F.typeCall_enumerate_1 _) (F.newCall_enumerate_1 _) (fun obj => F.args_object_init_2 obj _) F.entry_enumerate_new
    (lo_meets_enumerate_new1 B) ⟨h1, ?_⟩
  have hz : (s.heap.push o).objs.size = s.heap.objs.size + 1 := Heap.size_push ..
  show _ ∧ _
  rw [hz]
  have he : IsEnum ((s.heap.push o).push { cls := .type "enumerate", data := .fields #[.none, .bool false, .ref s.heap.objs.size, rawInt 0, .none, .none] }) (s.heap.objs.size + 1) s.heap.objs.size 0 .none := by
    have := Heap.get?_push_size (s.heap.push o) (o := { cls := .type "enumerate", data := .fields #[.none, .bool false, .ref s.heap.objs.size, rawInt 0, .none, .none] }) rfl
    rw [hz] at this; exact this
  refine ⟨⟨_, he, rfl⟩, h _ he (Heap.get?_push_of_some _ (Heap.get?_push_size _ B.free)) (by rw [Heap.size_push, hz]) fun b o x => Heap.get?_push_of_some _ (Heap.get?_push_of_some _ x)⟩
end PySem
namespace Lo
open PySem PySem.Spec PyProof.Rows L2
inductive Kd where
  | l (a : Addr)
  | t (a : Addr)
  | s (x : Str)
def Kd.v : Kd → V
  | .l a => .ref a
  | .t a => .ref a
  | .s x => .str x
def Kd.has (K : PySem.W.Frag) (H : Hp) : Kd → List V → Prop
  | .l a, xs => SqL K H a xs
  | .t a, xs => SqT K H a xs
  | .s x, xs => xs = x.cps.toList.map fun c => .str ⟨#[c]⟩
def Kd.st (N : Nat) (tk : Tok) (it : Addr) (i : Nat) (h : Heap) : Kd → Prop
  | .l a => h.IsListIter it a i ∧ a < N
  | .t a => h.IsTupleIter it a i ∧ a < N
  | .s x => h.IsStrIter it (strIterType x) x tk i
theorem Kd.st_obj {N : Nat} {tk : Tok} {it : Addr} {i : Nat} {h : Heap} {k : Kd} (st : k.st N tk it i h) : ∃ o, h.get? it = some o ∧ ∀ v, o.data ≠ .cell v := by
  cases k with
  | l a => obtain ⟨⟨o, e, _, d⟩, _⟩ := st; exact ⟨o, e, fun v q => by rw [d] at q; cases q⟩
  | t a => obtain ⟨⟨o, e, _, d⟩, _⟩ := st; exact ⟨o, e, fun v q => by rw [d] at q; cases q⟩
  | s x => obtain ⟨o, e, _, d⟩ := st; exact ⟨o, e, fun v q => by rw [d] at q; cases q⟩
theorem Kd.st_keep {N : Nat} {tk : Tok} {it : Addr} {i : Nat} {h h' : Heap} {k : Kd} (st : k.st N tk it i h) (hk : ∀ o, h.get? it = some o → h'.get? it = some o) : k.st N tk it i h' := by
  cases k with
  | l a => obtain ⟨⟨o, e, r⟩, n⟩ := st; exact ⟨⟨o, hk o e, r⟩, n⟩
  | t a => obtain ⟨⟨o, e, r⟩, n⟩ := st; exact ⟨⟨o, hk o e, r⟩, n⟩
  | s x => obtain ⟨o, e, r⟩ := st; exact ⟨o, hk o e, r⟩
section
variable {X : Cx} {pins : List (Addr × Obj)} {σ : L2.St} {H : Hp} {s : Shared}
theorem Kd.inj {k : Kd} {xs ys : List V} (I : Inv X pins σ H s) (h : k.has X.K H xs) (h' : k.has X.K H ys) : xs = ys := by
  cases k with
  | l a => exact I.list_inj h h'
  | t a => exact I.tuple_inj h h'
  | s x => exact (show xs = _ from h).trans (show ys = _ from h').symm
theorem vals_at {xs : List V} {its : List Value} (r : Vals xs its) {j : Nat} {u : Value} (h : its[j]? = some u) : ∃ x, xs[j]? = some x ∧ RelV x u := by
  induction r generalizing j with
  | nil => simp at h
  | cons a b ih =>
    cases j with
    | zero => simp at h; subst h; exact ⟨_, rfl, a⟩
    | succ j => simp at h; obtain ⟨x, h1, h2⟩ := ih h; exact ⟨x, by simpa using h1, h2⟩
theorem Kd.draws {k : Kd} {xs : List V} {N : Nat} {tk : Tok} {it : Addr} {i : Nat} (I : Inv X pins σ H s) (hc : X.calm = true) (hN : N ≤ it) (st : k.st N tk it i s.heap) (hh : k.has X.K H xs) :
    ∃ (fp : List Addr) (Pv : Nat → Value → Prop) (St : Nat → Heap → Prop), Draws X.prog X.w X.A.in1 it (it :: fp) xs.length Pv St ∧ (∀ b ∈ fp, b < N) ∧ St i s.heap ∧ (∀ j u, Pv j u → ∃ x, xs[j]? = some x ∧ RelV x u) ∧ ∀ j h', St j h' → k.st N tk it j h' := by
  have hd : X.A.in1.handled = none := I.ok.hd hc
  cases k with
  | l a =>
    obtain ⟨st, hl⟩ := st
    obtain ⟨its, r, p, _⟩ := I.list hh
    have e : its.toArray.size = xs.length := by simp [r.length]
    have D := Draws.list (prog := X.prog) (w := X.w) hd it a (Nat.ne_of_lt (Nat.lt_of_lt_of_le hl hN)) its.toArray
    rw [e] at D
    exact ⟨[a], _, _, D, fun b hb => by simp at hb; rw [hb]; exact hl, ⟨st, p.isList⟩, fun j u q => vals_at r (by simpa using q), fun j h' q => ⟨q.1, hl⟩⟩
  | t a =>
    obtain ⟨st, hl⟩ := st
    obtain ⟨its, r, p, _⟩ := I.tuple hh
    have e : its.toArray.size = xs.length := by simp [r.length]
    have D := Draws.tuple (prog := X.prog) (w := X.w) hd it a (Nat.ne_of_lt (Nat.lt_of_lt_of_le hl hN)) its.toArray
    rw [e] at D
    exact ⟨[a], _, _, D, fun b hb => by simp at hb; rw [hb]; exact hl, ⟨st, p⟩, fun j u q => vals_at r (by simpa using q), fun j h' q => ⟨q.1, hl⟩⟩
  | s x =>
    have D := Draws.text (prog := X.prog) (w := X.w) hd it x tk
    have hx : xs = x.cps.toList.map fun c => .str ⟨#[c]⟩ := hh
    have e : x.cps.size = xs.length := by rw [hx]; simp
    rw [e] at D
    refine ⟨[], _, _, D, fun b hb => by simp at hb, st, fun j u ⟨c, tu, h1, h2⟩ => ?_, fun j h' q => q⟩
    subst h2
    refine ⟨.str ⟨#[c]⟩, ?_, ⟨tu, rfl⟩⟩
    rw [hx, List.getElem?_map, Array.getElem?_toList, h1]
    rfl
theorem Kd.begins {k : Kd} {xs : List V} {u : Value} (I : Inv X pins σ H s) (ru : RelV k.v u) (hh : k.has X.K H xs) :
    ∃ (o : Obj) (Hb : Heap → Prop) (tk : Tok), Begins u o Hb ∧ Hb s.heap ∧ ∀ (it : Addr) (h' : Heap), h'.get? it = some o → k.st s.heap.objs.size tk it 0 h' := by
  cases k with
  | l a =>
    obtain ⟨its, r, p, _⟩ := I.list hh
    obtain rfl : u = Value.ref a := ru
    exact ⟨_, _, 0, begins_list a its.toArray, p.isList, fun it h' e => ⟨⟨_, e, rfl, rfl⟩, p.lt⟩⟩
  | t a =>
    obtain ⟨its, r, p, _⟩ := I.tuple hh
    obtain rfl : u = Value.ref a := ru
    obtain ⟨o1, ho1, _⟩ := id p
    exact ⟨_, _, 0, begins_tuple a its.toArray, p, fun it h' e => ⟨⟨_, e, rfl, rfl⟩, Heap.lt_size ho1⟩⟩
  | s x =>
    obtain ⟨t, rfl⟩ := ru
    exact ⟨_, _, t, begins_text x t, trivial, fun it h' e => ⟨_, e, rfl, rfl⟩⟩
end
def IteG (K : PySem.W.Frag) (k : Kd) : It :=
  ⟨fun i H => ∃ xs, k.has K H xs ∧ i < xs.length, fun i H v H' => ∃ T x, v = .ref T ∧ H T = none ∧ H' = upd H T (.tup [.int (i : Nat), x]) ∧ ∀ xs, k.has K H xs → xs[i]? = some x, fun i H => ∃ xs, k.has K H xs ∧ xs.length = i⟩
theorem turn_enumG {P : Program} {w : World} {K : PySem.W.Frag} {elts : List Expr} {kk : Nat} {tpos : Pos} (k : Kd) (tk : Tok) (N : Nat) :
    Turn P w K (.Tuple elts kk tpos) (IteG K k) [N + 1, N] (N + 1) (fun i h => (∃ old, IsEnum h (N + 1) N ((i : Nat) : Int) old) ∧ k.st N tk N i h) where
  mem := by simp
  obj := fun i h st b hb => by
    obtain ⟨⟨old, he⟩, st⟩ := st
    have e' : b = N + 1 ∨ b = N := by simpa using hb
    rcases e' with z | z
    · rw [z]; exact ⟨_, he, fun v q => nomatch q⟩
    · rw [z]; exact Kd.st_obj (k := k) st
  keep := fun i h h' st kp => let ⟨⟨old, he⟩, hi⟩ := st; ⟨⟨old, kp (N + 1) (by simp) _ he⟩, Kd.st_keep (k := k) hi fun o q => kp N (by simp) o q⟩
  item := by
    intro X hP hw hK hc i pins s σ H E I hf st hg
    subst hP hw hK
    obtain ⟨⟨old, he⟩, hit⟩ := st
    obtain ⟨xs, hh, hx⟩ := hg
    obtain ⟨fp, Pv, St, D, hfp, hSt, hP, hB⟩ := Kd.draws I hc (Nat.le_refl _) hit hh
    have hne : N + 1 ≠ N := Nat.succ_ne_self _
    have hel : N + 1 < s.heap.objs.size := Heap.lt_size he
    refine wpAny_pyNext_enum_itemD D he hSt hx hne (fun z => ?_) fun u h' tk' hu ho hit' hT hsz hk => ?_
    · rcases List.mem_cons.mp z with z | z
      · exact hne z
      · exact absurd (hfp _ z) (by show ¬ (N + 1 < N); omega)
    obtain ⟨x, hxx, ru⟩ := hP _ _ hu
    refine ⟨_, rfl, wpAny_letOwnedTupleGo_enum (s := { s with heap := h', toks := tk' + 1 }) ho fun h'' he' sb => ?_⟩
    have hT2 : h''.get? s.heap.objs.size = some { cls := .type "tuple", data := .seq #[.int i tk', u] } := (sb.2 _ (Nat.ne_of_gt hel)).trans hT
    have new : ObjOk X.prog X.w (upd H s.heap.objs.size (.tup [.int (i : Nat), x])) h'' s.heap.objs.size (.tup [.int (i : Nat), x]) :=
      ⟨by show 2 ≤ sizeLine; decide, [.int i tk', u], .cons ⟨_, rfl⟩ (.cons ru .nil), ⟨_, hT2, rfl, _, rfl⟩⟩
    have I1 : Inv X pins σ (upd H s.heap.objs.size (.tup [.int (i : Nat), x])) { s with heap := h'', toks := tk' + 1 } :=
      I.turnedNew (ch := [N + 1, N]) (fun b ob hb q => (sb.2 b (fun z => hb (by simp [z]))).trans (hk b ob (fun z => hb (by simp [z])) (fun z => hb (by simp [z])) q)) hf (Nat.le_refl _) new
    refine ⟨.ref s.heap.objs.size, _, I1, rfl, ⟨_, x, rfl, I.hok.fresh (Nat.le_refl _), rfl, fun ys hy => by rw [Kd.inj I hy hh]; exact hxx⟩, ⟨⟨u, ?_⟩, Kd.st_keep (k := k) (hB _ _ hit') fun o q => (sb.2 N (Ne.symm hne)).trans q⟩, fun b hb => ?_⟩
    · have e1 : ((i + 1 : Nat) : Int) = (i : Int) + 1 := by omega
      rw [e1]; exact he'
    · have hb' : b < s.heap.objs.size := by
        have e' : b = N + 1 ∨ b = N := by simpa using hb
        rcases e' with z | z
        · rw [z]; exact hel
        · rw [z]; exact Nat.lt_of_succ_lt hel
      rw [upd_ne (Nat.ne_of_lt hb')]
      exact (hf b hb).1
  done := by
    intro X hP hw hK hc i pins s σ H E I hf st hg
    subst hP hw hK
    obtain ⟨⟨old, he⟩, hit⟩ := st
    obtain ⟨xs, hh, hx⟩ := hg
    obtain ⟨fp, Pv, St, D, hfp, hSt, hP, hB⟩ := Kd.draws I hc (Nat.le_refl _) hit hh
    obtain ⟨f0, f1, f2, f3, f4, f5⟩ := hf N (by simp)
    rw [← hx] at hSt
    exact wpAny_pyNext_enum_endD D he hSt fun h' eb => ⟨rfl, I.turned (t' := s.toks) (fun b o hb q => eb b o hb q) f0 f1 f3 f4 f5⟩
  self := fun A i s Q E st h => let ⟨⟨_, he⟩, _⟩ := st; wpAny_pyIter_enum he h
def iEnumG (K : PySem.W.Frag) (ta : TA) : TI := fun σ H R => ta σ H fun vs H1 => ∃ (k : Kd) (xs : List V), vs = [k.v] ∧ k.has K H1 xs ∧ R (IteG K k) H1
theorem pi_enumG {X : Cx} {e : Expr} {ta : TA} {p pos tpos : Pos} {elts : List Expr} {kk : Nat} (hg : Gl X "enumerate") (hm : X.mg "enumerate" = none) (ha : PA X [e] ta) (hs : starEach [e] X.env = [(false, eval e X.env)]) :
    PI X (.Tuple elts kk tpos) (.Call (.Name "enumerate" p) [e] [] pos) (iEnumG X.K ta) := by
  refine ⟨fun pins s σ H R I h => ?_⟩
  refine Call_ (ld_blt I hg hm boot_enumerate (PyProof.Rows.callWith_type1 (thn (ha.run pos pins s σ H _ I h) fun us s1 ⟨vs, H1, I1, r1, q1⟩ => ?_) hs rfl))
  obtain ⟨k, xs, ex, hh, q⟩ := q1
  subst ex
  cases r1 with
  | cons r rr =>
    cases rr
    obtain ⟨o, Hb, tk, B, hb, hst⟩ := Kd.begins I1 r hh
    refine lo_enum_begins B hb fun h' he hit hsz hk => wpAny_pyIter_enum he ?_
    have I2 : Inv X pins σ H1 { s1 with heap := h' } := I1.kept (t' := s1.toks) hk
    refine ⟨s1.heap.objs.size + 1, [s1.heap.objs.size + 1, s1.heap.objs.size], _, _, H1, rfl, I2, turn_enumG k tk s1.heap.objs.size, ⟨⟨.none, he⟩, hst _ _ hit⟩, fun b hb => ?_, q⟩
    have e' : b = s1.heap.objs.size + 1 ∨ b = s1.heap.objs.size := by simpa using hb
    have hle : s1.heap.objs.size ≤ b := by
      rcases e' with z | z
      · rw [z]; exact Nat.le_add_right _ _
      · rw [z]; exact Nat.le_refl _
    exact I1.fpOk hle (I1.hok.fresh hle)
def ItzG (K : PySem.W.Frag) (k k2 : Kd) : It :=
  ⟨fun i H => ∃ xs ys, k.has K H xs ∧ k2.has K H ys ∧ i < xs.length ∧ i < ys.length,
    fun i H v H' => ∃ T x y, v = .ref T ∧ H T = none ∧ H' = upd H T (.tup [x, y]) ∧ (∀ xs, k.has K H xs → xs[i]? = some x) ∧ ∀ ys, k2.has K H ys → ys[i]? = some y,
    fun i H => ∃ xs ys, k.has K H xs ∧ k2.has K H ys ∧ i ≤ xs.length ∧ i ≤ ys.length ∧ (i = xs.length ∨ i = ys.length)⟩
theorem turn_zipG {P : Program} {w : World} {K : PySem.W.Frag} {elts : List Expr} {kk : Nat} {tpos : Pos} (k k2 : Kd) (tk tk2 : Tok) (N : Nat) :
    Turn P w K (.Tuple elts kk tpos) (ItzG K k k2) [N + 4, N + 2, N + 3, N, N + 1] (N + 4) (fun i h => IsZip h (N + 4) (N + 2) (N + 3) .none ∧ IsTupOf2 h (N + 2) (.ref N) (.ref (N + 1)) ∧ (∃ x y, IsTupOf2 h (N + 3) x y) ∧ k.st N tk N i h ∧ k2.st N tk2 (N + 1) i h) where
  mem := by simp
  obj := fun i h st c hc => by
    obtain ⟨hz, hTI, ⟨x, y, hTO⟩, h1, h2⟩ := st
    have e' : c = N + 4 ∨ c = N + 2 ∨ c = N + 3 ∨ c = N ∨ c = N + 1 := by simpa using hc
    rcases e' with q | q | q | q | q
    · rw [q]; exact ⟨_, hz, fun v q => nomatch q⟩
    · rw [q]; exact ⟨_, hTI, fun v q => nomatch q⟩
    · rw [q]; exact ⟨_, hTO, fun v q => nomatch q⟩
    · rw [q]; exact Kd.st_obj (k := k) h1
    · rw [q]; exact Kd.st_obj (k := k2) h2
  keep := fun i h h' st kp => by
    obtain ⟨hz, hTI, ⟨x, y, hTO⟩, h1, h2⟩ := st
    exact ⟨kp _ (by simp) _ hz, kp _ (by simp) _ hTI, ⟨x, y, kp _ (by simp) _ hTO⟩, Kd.st_keep (k := k) h1 fun o q => kp N (by simp) o q, Kd.st_keep (k := k2) h2 fun o q => kp _ (by simp) o q⟩
  item := by
    intro X hP hw hK hc i pins s σ H E I hf st hg
    subst hP hw hK
    obtain ⟨hz, hTI, ⟨x0, y0, hTO⟩, h1, h2⟩ := st
    obtain ⟨xs, ys, hqx, hqy, hx, hy⟩ := hg
    obtain ⟨fp, Pv, St, D1, hfp, hSt, hP, hB⟩ := Kd.draws I hc (Nat.le_refl _) h1 hqx
    obtain ⟨fp2, Pv2, St2, D2, hfp2, hSt2, hP2, hB2⟩ := Kd.draws I hc (Nat.le_succ N) h2 hqy
    have S := zip_sep2 hfp hfp2
    have hzl : N + 4 < s.heap.objs.size := Heap.lt_size hz
    refine wpAny_pyNext_zipD2_item S D1 D2 hz hTI hTO hSt hSt2 hx hy fun u u2 h' tk' hu hu2 z' TO' h1' h2' hT hsz hk => ?_
    obtain ⟨x, hxx, ru⟩ := hP _ _ hu
    obtain ⟨y, hyy, ru2⟩ := hP2 _ _ hu2
    refine ⟨_, rfl, wpAny_letOwnedTupleGo_zip (s := { s with heap := h', toks := tk' }) z' fun h'' z'' sb => ?_⟩
    have hT2 : h''.get? s.heap.objs.size = some { cls := .type "tuple", data := .seq #[u, u2] } := (sb.2 _ (Nat.ne_of_gt hzl)).trans hT
    have new : ObjOk X.prog X.w (upd H s.heap.objs.size (.tup [x, y])) h'' s.heap.objs.size (.tup [x, y]) :=
      ⟨by show 2 ≤ sizeLine; decide, [u, u2], .cons ru (.cons ru2 .nil), ⟨_, hT2, rfl, _, rfl⟩⟩
    have I1 : Inv X pins σ (upd H s.heap.objs.size (.tup [x, y])) { s with heap := h'', toks := tk' } :=
      I.turnedNew (ch := [N + 4, N + 2, N + 3, N, N + 1]) (fun c o hb q => (sb.2 c (fun q' => hb (by simp [q']))).trans (hk c o (fun q' => hb (by simp [q'])) (fun q' => hb (by simp [q'])) (fun q' => hb (by simp [q'])) (fun q' => hb (by simp [q'])) q)) hf (Nat.le_refl _) new
    refine ⟨.ref s.heap.objs.size, _, I1, rfl, ⟨_, x, y, rfl, I.hok.fresh (Nat.le_refl _), rfl, fun l hl => by rw [Kd.inj I hl hqx]; exact hxx, fun l hl => by rw [Kd.inj I hl hqy]; exact hyy⟩, ⟨z'', ?_, ⟨u, u2, ?_⟩, ?_, ?_⟩, fun c hcm => ?_⟩
    · exact (sb.2 _ S.TIz).trans (hk _ _ S.TIz S.TITO S.TIi1 S.TIi2 hTI)
    · exact (sb.2 _ S.TOz).trans TO'
    · exact Kd.st_keep (k := k) (hB _ _ h1') fun o q => (sb.2 _ (Ne.symm S.zi1)).trans q
    · exact Kd.st_keep (k := k2) (hB2 _ _ h2') fun o q => (sb.2 _ (Ne.symm S.zi2)).trans q
    · have hlt : c < s.heap.objs.size := by
        have e' : c = N + 4 ∨ c = N + 2 ∨ c = N + 3 ∨ c = N ∨ c = N + 1 := by simpa using hcm
        rcases e' with q | q | q | q | q <;> (rw [q]; first | exact hzl | exact Nat.lt_of_le_of_lt (by show _ ≤ N + 4; omega) hzl)
      rw [upd_ne (Nat.ne_of_lt hlt)]
      exact (hf c hcm).1
  done := by
    intro X hP hw hK hc i pins s σ H E I hf st hg
    subst hP hw hK
    obtain ⟨hz, hTI, ⟨x0, y0, hTO⟩, h1, h2⟩ := st
    obtain ⟨xs, ys, hqx, hqy, hx, hy, hend⟩ := hg
    obtain ⟨fp, Pv, St, D1, hfp, hSt, hP, hB⟩ := Kd.draws I hc (Nat.le_refl _) h1 hqx
    obtain ⟨fp2, Pv2, St2, D2, hfp2, hSt2, hP2, hB2⟩ := Kd.draws I hc (Nat.le_succ N) h2 hqy
    have S := zip_sep2 hfp hfp2
    exact wpAny_pyNext_zipD2_end S D1 D2 hz hTI hTO hSt hSt2 hx hy hend fun h' tk' hk => ⟨rfl, I.turnedL (ch := [N + 4, N + 2, N + 3, N, N + 1]) (fun c o hb q =>
      hk c o (fun q' => hb (by simp [q'])) (fun q' => hb (by simp [q'])) (fun q' => hb (by simp [q'])) (fun q' => hb (by simp [q'])) q) hf⟩
  self := fun A i s Q E st h => wpAny_pyIter_zip st.1 h
def iZipG (K : PySem.W.Frag) (ta : TA) : TI := fun σ H R => ta σ H fun vs H1 => ∃ (k k2 : Kd) (xs ys : List V), vs = [k.v, k2.v] ∧ k.has K H1 xs ∧ k2.has K H1 ys ∧ R (ItzG K k k2) H1
theorem pi_zipG {X : Cx} {e e2 : Expr} {ta : TA} {p pos tpos : Pos} {elts : List Expr} {kk : Nat} (hg : Gl X "zip") (hm : X.mg "zip" = none) (ha : PA X [e, e2] ta)
    (hs : starEach [e, e2] X.env = (false, eval e X.env) :: starEach [e2] X.env) (hpl : (backTo pos (starEach [e2] X.env)).any (·.1) = false) :
    PI X (.Tuple elts kk tpos) (.Call (.Name "zip" p) [e, e2] [] pos) (iZipG X.K ta) := by
  refine ⟨fun pins s σ H R I h => ?_⟩
  refine Call_ (ld_blt I hg hm PyProof.Rows.boot_zip (PyProof.Rows.callWith_type1 (thn (ha.run pos pins s σ H _ I h) fun us s1 ⟨vs, H1, I1, r1, q1⟩ => ?_) hs hpl))
  obtain ⟨k, k2, xs, ys, ex, hh, hh2, q⟩ := q1
  subst ex
  cases r1 with
  | cons r rr =>
    cases rr with
    | cons r' rr =>
      cases rr
      obtain ⟨o, Hb, tk, B, hb, hst⟩ := Kd.begins I1 r hh
      obtain ⟨o2, Hb2, tk2, B2, hb2, hst2⟩ := Kd.begins I1 r' hh2
      refine zip_begins2 B B2 hb hb2 fun h' hz hTI hTO h1 h2 hsz hk => wpAny_pyIter_zip hz ?_
      have I2 : Inv X pins σ H1 { s1 with heap := h' } := I1.kept (t' := s1.toks) hk
      refine ⟨s1.heap.objs.size + 4, [s1.heap.objs.size + 4, s1.heap.objs.size + 2, s1.heap.objs.size + 3, s1.heap.objs.size, s1.heap.objs.size + 1], _, _, H1, rfl, I2, turn_zipG k k2 tk tk2 s1.heap.objs.size, ⟨hz, hTI, ⟨_, _, hTO⟩, hst _ _ h1, hst2 _ _ h2⟩, fun c hcm => ?_, q⟩
      have e' : c = s1.heap.objs.size + 4 ∨ c = s1.heap.objs.size + 2 ∨ c = s1.heap.objs.size + 3 ∨ c = s1.heap.objs.size ∨ c = s1.heap.objs.size + 1 := by simpa using hcm
      have hle : s1.heap.objs.size ≤ c := by
        rcases e' with z | z | z | z | z <;> (rw [z]; first | exact Nat.le_refl _ | exact Nat.le_add_right _ _)
      exact I1.fpOk hle (I1.hok.fresh hle)
end Lo
namespace Lo
open PySem PySem.Spec PyProof.Rows L2
def era (H : Hp) (p : Addr) : Hp := fun a => if a = p then none else H a
theorem era_same {H : Hp} {p : Addr} : era H p p = none := if_pos rfl
theorem era_ne {H : Hp} {p a : Addr} (h : a ≠ p) : era H p a = H a := if_neg h
theorem upd_era {H : Hp} {p : Addr} {o : HO} : upd (era H p) p o = upd H p o := by
  funext a
  by_cases h : a = p
  · subst h; rw [upd_same, upd_same]
  · rw [upd_ne h, upd_ne h, era_ne h]
theorem upd_id {H : Hp} {p : Addr} {o : HO} (h : H p = some o) : upd H p o = H := by
  funext a
  by_cases q : a = p
  · subst q; rw [upd_same, h]
  · rw [upd_ne q]
section
variable {G : GI} {ρ : AM} {h : List O} {F R H : Hp} {p : Addr} {o o' : HO}
theorem RO.apart {m n : Nat} {u : O} {R' H' : Hp} (z : RO G ρ m F R H n u) (hp : ρ.ob n ≠ p) (hd : isIns u = true → ρ.dx n ≠ p) (hH : ∀ a, a ≠ p → H' a = H a) (hR : ∀ a, a ≠ p → R' a = R a) : RO G ρ m F R' H' n u := by
  cases u with
  | lst xs =>
    obtain ⟨vs, h1, h2⟩ := z
    exact ⟨vs, by rw [hH _ hp]; exact h1, h2⟩
  | dic xs =>
    obtain ⟨vs, h1, h2⟩ := z
    exact ⟨vs, by rw [hH _ hp]; exact h1, h2⟩
  | ind c fs =>
    obtain ⟨dx, vs, h1, h2⟩ := z
    exact ⟨dx, vs, by rw [hH _ hp]; exact h1, h2⟩
  | ins c fs =>
    obtain ⟨vs, h1, h2, h3, h4, h5, h7⟩ := z
    have dn := hd rfl
    exact ⟨vs, slt_of h1 (hH _ hp) (fun q => by rw [hH _ dn]; exact q), h2, h3, by rw [hR _ dn]; exact h4, by rw [hH _ dn]; exact h5, h7⟩
theorem Rel.dx_ne (r : Rel G ρ h F R H) {n : Nat} {u : O} (q : h[n]? = some u) (hi : isIns u = true) : R (ρ.dx n) = none ∧ H (ρ.dx n) ≠ none := by
  have z := r.lv n u q
  cases u with
  | ins c fs => obtain ⟨vs, h1, h2, h3, h4, h5, h7⟩ := z; exact ⟨h4, h5⟩
  | _ => cases hi
theorem Rel.pin (r : Rel G ρ h F R H) (hp : H p = none) : Rel G ρ h F (upd R p o) (upd H p o) := by
  have fp := r.fnone hp
  have lne : ∀ n, n < h.length → ρ.ob n ≠ p := fun n hn q => r.lH n hn (by rw [q]; exact hp)
  refine ⟨sub_upd2 r.fr fp, fun a u q => ?_, fun a u q => ?_, fun n u q => ?_, r.inj, r.dinj, r.lF, fun n hn => ?_, fun n hn => ?_, r.tb.step (SubW.refl _) (fun t ht => upd_ne (r.tb.ne hp ht)) r.tb.nF (fun t ht => by rw [upd_ne (r.tb.ne hp ht)]; exact r.tb.nR t ht) r.tb.nL⟩
  · by_cases z : a = p
    · subst z; rw [upd_same] at q ⊢; exact q
    · rw [upd_ne z] at q ⊢; exact r.rs a u q
  · rw [upd_ne (ne_of_none q fp)]; exact r.fR a u q
  · have hn : n < h.length := (List.getElem?_eq_some_iff.mp q).1
    exact (r.lv n u q).apart (lne n hn) (fun hi z => (r.dx_ne q hi).2 (by rw [z]; exact hp)) (fun a => upd_ne) (fun a => upd_ne)
  · rw [upd_ne (lne n hn)]; exact r.lR n hn
  · rw [upd_ne (lne n hn)]; exact r.lH n hn
theorem Rel.unpin (r : Rel G ρ h F (upd R p o) H) (hr : R p = none) : Rel G ρ h F R (era H p) := by
  have fp : F p = none := by
    cases q : F p with
    | none => rfl
    | some u => have := r.fR p u q; rw [upd_same] at this; cases this
  have lne : ∀ n, n < h.length → ρ.ob n ≠ p := fun n hn q => by have := r.lR n hn; rw [q, upd_same] at this; cases this
  have tne : ∀ t ∈ G.tabs, t.1 ≠ p := fun t ht q => by have := r.tb.nR t ht; rw [q, upd_same] at this; cases this
  refine ⟨fun a u q => ?_, fun a u q => ?_, fun a u q => ?_, fun n u q => ?_, r.inj, r.dinj, r.lF, fun n hn => ?_, fun n hn => ?_, r.tb.step (SubW.refl _) (fun t ht => era_ne (tne t ht)) r.tb.nF (fun t ht => by have := r.tb.nR t ht; rw [upd_ne (tne t ht)] at this; exact this) r.tb.nL⟩
  · rw [era_ne (ne_of_none q fp)]; exact r.fr a u q
  · have z := ne_of_none q hr
    rw [era_ne z]; exact r.rs a u (by rw [upd_ne z]; exact q)
  · have := r.fR a u q
    rw [upd_ne (ne_of_none q fp)] at this; exact this
  · have hn : n < h.length := (List.getElem?_eq_some_iff.mp q).1
    exact (r.lv n u q).apart (lne n hn) (fun hi z => by have := (r.dx_ne q hi).1; rw [z, upd_same] at this; cases this) (fun a => era_ne) (fun a z => (upd_ne z).symm)
  · have := r.lR n hn
    rw [upd_ne (lne n hn)] at this; exact this
  · rw [era_ne (lne n hn)]; exact r.lH n hn
theorem Rel.repin (r : Rel G ρ h F (upd R p o) H) (hr : R p = none) : Rel G ρ h F (upd R p o') (upd H p o') := by
  have := (r.unpin hr).pin (o := o') era_same
  rw [upd_era] at this
  exact this
theorem Rel.junk (r : Rel G ρ h F R H) (hp : H p = none) : Rel G ρ h F R (upd H p o) := by
  have fp := r.fnone hp
  have rp := r.rnone hp
  have lne : ∀ n, n < h.length → ρ.ob n ≠ p := fun n hn q => r.lH n hn (by rw [q]; exact hp)
  refine ⟨sub_upd2 r.fr fp, sub_upd2 r.rs rp, r.fR, fun n u q => ?_, r.inj, r.dinj, r.lF, r.lR, fun n hn => ?_, r.tb.step (SubW.refl _) (fun t ht => upd_ne (r.tb.ne hp ht)) r.tb.nF r.tb.nR r.tb.nL⟩
  · have hn : n < h.length := (List.getElem?_eq_some_iff.mp q).1
    exact (r.lv n u q).apart (lne n hn) (fun hi z => (r.dx_ne q hi).2 (by rw [z]; exact hp)) (fun a => upd_ne) (fun a _ => rfl)
  · rw [upd_ne (lne n hn)]; exact r.lH n hn
end
inductive Src where
  | fx (xs : List D)
  | pr (xs : List (List D))
  | lv (n : Nat)
abbrev AcI := Sl → List O → Res Src
def LI (G : GI) : (ρ : AM) → (m : Nat) → (F : Hp) → Src → It → Prop := fun ρ0 m0 F0 sr J => match sr with
  | .fx xs => (∀ i ρ h F R H, Ext ρ0 m0 F0 ρ h.length F → Rel G ρ h F R H → i < xs.length → J.go i H) ∧
      (∀ i ρ h F R H x H' d, Ext ρ0 m0 F0 ρ h.length F → Rel G ρ h F R H → J.yld i H x H' → xs[i]? = some d → H' = H ∧ RD G ρ h.length F d x) ∧
      (∀ ρ h F R H, Ext ρ0 m0 F0 ρ h.length F → Rel G ρ h F R H → J.stop xs.length H)
  | .pr xs => (∀ i ρ h F R H, Ext ρ0 m0 F0 ρ h.length F → Rel G ρ h F R H → i < xs.length → J.go i H) ∧
      (∀ i ρ h F R H x H' ds, Ext ρ0 m0 F0 ρ h.length F → Rel G ρ h F R H → J.yld i H x H' → xs[i]? = some ds → ∃ T vs, x = .ref T ∧ H T = none ∧ H' = upd H T (.tup vs) ∧ RDs G ρ h.length F ds vs) ∧
      (∀ ρ h F R H, Ext ρ0 m0 F0 ρ h.length F → Rel G ρ h F R H → J.stop xs.length H)
  | .lv n => J = Itl G.K (ρ0.ob n) ∧ n < m0
def rdI (G : GI) (W : WX) (A : AcI) : TI := fun σ H Q => rdG G (LI G) W A σ H Q
def rdX (G : GI) : Tgt → TG
  | .nm i => rdT G (.nm i)
  | .tp ts => gTup G.K ts.length (rdTs G ts)
theorem rdX_of {G : GI} {t : Tgt} {v : V} {σ : L2.St} {H : Hp} {Q : L2.St → Hp → Prop} (h : rdT G t v σ H Q) : rdX G t v σ H Q := by
  cases t with
  | nm i => exact h
  | tp ts =>
    obtain ⟨ρ, h, F, R, d, s, s', r, q, sr, e, k⟩ := h
    cases d with
    | tup ds =>
      simp only [asgT] at e
      cases q with
      | tup q1 q2 => exact ⟨_, _, rfl, (r.fr.tupAt q1).sq, by rw [← q2.length]; exact asgTs_len e, ρ, h, F, R, ds, s, s', r, q2, sr, e, k⟩
    | _ => simp [asgT] at e
def forF (t : Tgt) (a : Sc) : List D → Sc
  | [], s, h => .nx s h
  | d :: ds, s, h => match asgT t d s with
    | some s' => (a s' h).loop (forF t a ds)
    | none => .no
def forP (t : Tgt) (a : Sc) : List (List D) → Sc
  | [], s, h => .nx s h
  | d :: ds, s, h => match t with
    | .tp ts => match asgTs ts d s with
      | some s' => (a s' h).loop (forP t a ds)
      | none => .no
    | .nm _ => .no
def forL (t : Tgt) (a : Sc) (n : Nat) : Nat → Nat → Sc
  | 0, _, _, _ => .no
  | f + 1, i, s, h => match h[n]? with
    | some (.lst xs) => match xs[i]? with
      | some d => match asgT t d s with
        | some s' => (a s' h).loop (forL t a n f (i + 1))
        | none => .no
      | none => .nx s h
    | _ => .no
def scFor (A : AcI) (t : Tgt) (a : Sc) : Sc := fun s h => (A s h).bindS s fun src h1 => match src with
  | .fx xs => forF t a xs s h1
  | .pr xs => forP t a xs s h1
  | .lv n => forL t a n whlFuel 0 s h1
section
variable {X : Cx} {G : GI} {W : WX} {pos : Pos} {iter tg : Expr} {sts : List Stmt} {A : AcI} {t : Tgt} {a : Sc}
theorem drop_of {α : Type} {xs : List α} {i : Nat} {x : α} (h : xs[i]? = some x) : xs.drop i = x :: xs.drop (i + 1) := by
  obtain ⟨hl, e⟩ := List.getElem?_eq_some_iff.mp h
  rw [List.drop_eq_getElem_cons hl, e]
theorem loopX {ρ : AM} {h : List O} {F R H : Hp} {s : Sl} {σ : L2.St} {k : Sc} {E : Ends} {N : L2.St → Hp → Prop} (r : Rel G ρ h F R H) (sr : SRel G ρ h.length F s σ) (wp : WpS G W R ρ h.length F ((a s h).loop k) E)
    (hN : ∀ ρ' s' h' F' σ' H', Ext ρ h.length F ρ' h'.length F' → Rel G ρ' h' F' R H' → SRel G ρ' h'.length F' s' σ' → WpS G W R ρ' h'.length F' (k s' h') E → N σ' H') : rdS G W a { E with nx := N, ct := N, bk := E.nx } σ H := by
  refine ⟨ρ, s, h, F, R, r, sr, ?_⟩
  cases e : a s h with
  | nx s1 h1 => rw [e] at wp; exact fun ρ' F' σ' H' x r' sr' => hN ρ' s1 h1 F' σ' H' x r' sr' (WpS.rebase x wp)
  | ct s1 h1 => rw [e] at wp; exact fun ρ' F' σ' H' x r' sr' => hN ρ' s1 h1 F' σ' H' x r' sr' (WpS.rebase x wp)
  | bk s1 h1 => rw [e] at wp; exact wp
  | rt d h1 => rw [e] at wp; exact wp
  | ex c fs s1 h1 => rw [e] at wp; exact wp
  | no => rw [e] at wp; exact wp
theorem for_of {E : Ends} {σ : L2.St} {H : Hp} (h : rdS G W (scFor A t a) E σ H) : tFor (rdI G W A) (rdX G t) (rdS G W a) E σ H := by
  obtain ⟨ρ, s, h, F, R, r, sr, wp⟩ := h
  refine stepS (L := LI G) r sr wp fun ρ0 h0 F0 src J H0 x0 r0 li wp0 => ?_
  have sr0 := sr.mono x0
  cases src with
  | fx xs =>
    obtain ⟨go, yl, st⟩ := li
    refine ⟨fun i m σ H => ∃ ρ s h F, Ext ρ0 h0.length F0 ρ h.length F ∧ Rel G ρ h F R H ∧ SRel G ρ h.length F s σ ∧ i ≤ xs.length ∧ m = xs.length - i ∧ WpS G W R ρ h.length F (forF t a (xs.drop i) s h) E,
      ⟨_, ρ0, s, h0, F0, Ext.refl _ _ _, r0, sr0, Nat.zero_le _, rfl, wp0⟩, ?_⟩
    rintro i m σ H ⟨ρ, s, h, F, x, r, sr, hi, rfl, wp⟩
    by_cases hl : i < xs.length
    · obtain ⟨d, hd⟩ : ∃ d, xs[i]? = some d := ⟨_, List.getElem?_eq_getElem hl⟩
      rw [drop_of hd] at wp
      simp only [forF] at wp
      cases e1 : asgT t d s with
      | none => rw [e1] at wp; exact wp.elim
      | some s' =>
        rw [e1] at wp
        refine .inr ⟨go i ρ h F R H x r hl, fun σ H => ∃ ρ s h F, Ext ρ0 h0.length F0 ρ h.length F ∧ Rel G ρ h F R H ∧ SRel G ρ h.length F s σ ∧ WpS G W R ρ h.length F (forF t a (xs.drop (i + 1)) s h) E,
          fun σ' H' ⟨ρ', s', h', F', x', r', sr', wp'⟩ => ⟨_, by omega, ρ', s', h', F', x', r', sr', hl, rfl, wp'⟩, fun v H' y => ?_⟩
        obtain ⟨eH, q⟩ := yl i ρ h F R H v H' d x r y hd
        subst eH
        refine rdX_of ⟨ρ, h, F, R, d, s, s', r, q, sr, e1, fun σ' sr' _ => ?_⟩
        exact loopX (r) sr' wp fun ρ' s1 h1 F' σ' H' x1 r' sr' wp' => ⟨ρ', s1, h1, F', x.trans x1, r', sr', wp'⟩
    · have e : i = xs.length := by omega
      subst e
      rw [List.drop_length] at wp
      exact .inl ⟨st ρ h F R H x r, wp ρ F σ H (Ext.refl _ _ _) r sr⟩
  | pr xs =>
    obtain ⟨go, yl, st⟩ := li
    refine ⟨fun i m σ H => ∃ ρ s h F, Ext ρ0 h0.length F0 ρ h.length F ∧ Rel G ρ h F R H ∧ SRel G ρ h.length F s σ ∧ i ≤ xs.length ∧ m = xs.length - i ∧ WpS G W R ρ h.length F (forP t a (xs.drop i) s h) E,
      ⟨_, ρ0, s, h0, F0, Ext.refl _ _ _, r0, sr0, Nat.zero_le _, rfl, wp0⟩, ?_⟩
    rintro i m σ H ⟨ρ, s, h, F, x, r, sr, hi, rfl, wp⟩
    by_cases hl : i < xs.length
    · obtain ⟨d, hd⟩ : ∃ d, xs[i]? = some d := ⟨_, List.getElem?_eq_getElem hl⟩
      rw [drop_of hd] at wp
      cases t with
      | nm _ => exact wp.elim
      | tp ts =>
      simp only [forP] at wp
      cases e1 : asgTs ts d s with
      | none => rw [e1] at wp; exact wp.elim
      | some s' =>
        rw [e1] at wp
        refine .inr ⟨go i ρ h F R H x r hl, fun σ H => ∃ ρ s h F, Ext ρ0 h0.length F0 ρ h.length F ∧ Rel G ρ h F R H ∧ SRel G ρ h.length F s σ ∧ WpS G W R ρ h.length F (forP (.tp ts) a (xs.drop (i + 1)) s h) E,
          fun σ' H' ⟨ρ', s', h', F', x', r', sr', wp'⟩ => ⟨_, by omega, ρ', s', h', F', x', r', sr', hl, rfl, wp'⟩, fun v H' y => ?_⟩
        obtain ⟨T, vs, ev, hT, eH, q⟩ := yl i ρ h F R H v H' d x r y hd
        subst eH ev
        refine ⟨T, vs, rfl, .inl (.inl upd_same), by rw [← q.length]; exact asgTs_len e1, ρ, h, F, R, d, s, s', r.junk hT, q, sr, e1, fun σ' sr' _ => ?_⟩
        exact loopX (r.junk hT) sr' wp fun ρ' s1 h1 F' σ' H' x1 r' sr' wp' => ⟨ρ', s1, h1, F', x.trans x1, r', sr', wp'⟩
    · have e : i = xs.length := by omega
      subst e
      rw [List.drop_length] at wp
      exact .inl ⟨st ρ h F R H x r, wp ρ F σ H (Ext.refl _ _ _) r sr⟩
  | lv n =>
    obtain ⟨eJ, hn⟩ := li
    subst eJ
    refine ⟨fun i m σ H => ∃ ρ s h F, Ext ρ0 h0.length F0 ρ h.length F ∧ Rel G ρ h F R H ∧ SRel G ρ h.length F s σ ∧ WpS G W R ρ h.length F (forL t a n m i s h) E,
      ⟨whlFuel, ρ0, s, h0, F0, Ext.refl _ _ _, r0, sr0, wp0⟩, ?_⟩
    rintro i m σ H ⟨ρ, s, h, F, x, r, sr, wp⟩
    cases m with
    | zero => exact wp.elim
    | succ m =>
    have en : ρ.ob n = ρ0.ob n := x.same n hn
    cases e0 : h[n]? with
    | none => simp only [forL, e0] at wp; exact wp.elim
    | some o =>
      cases o with
      | lst xs =>
        obtain ⟨vs, h1, h2⟩ := r.lv n _ e0
        rw [en] at h1
        simp only [forL, e0] at wp
        cases e3 : xs[i]? with
        | none =>
          rw [e3] at wp
          exact .inl ⟨⟨vs, SqL.of h1, by rw [← h2.length]; exact List.getElem?_eq_none_iff.mp e3⟩, wp ρ F σ H (Ext.refl _ _ _) r sr⟩
        | some d =>
          rw [e3] at wp
          simp only at wp
          obtain ⟨v, hv, q⟩ := h2.get e3
          cases e1 : asgT t d s with
          | none => rw [e1] at wp; exact wp.elim
          | some s' =>
            rw [e1] at wp
            refine .inr ⟨⟨vs, v, SqL.of h1, hv⟩, fun σ H => ∃ ρ s h F, Ext ρ0 h0.length F0 ρ h.length F ∧ Rel G ρ h F R H ∧ SRel G ρ h.length F s σ ∧ WpS G W R ρ h.length F (forL t a n m (i + 1) s h) E,
              fun σ' H' ⟨ρ', s', h', F', x', r', sr', wp'⟩ => ⟨m, Nat.lt_succ_self m, ρ', s', h', F', x', r', sr', wp'⟩, fun w H' y => ?_⟩
            obtain ⟨eH, y⟩ := y
            subst eH
            have ev : w = v := by
              have := y vs (SqL.of h1)
              rw [hv] at this
              exact (Option.some.inj this).symm
            subst ev
            refine rdX_of ⟨ρ, h, F, R, d, s, s', r, q, sr, e1, fun σ' sr' _ => ?_⟩
            exact loopX (r) sr' wp fun ρ' s1 h1 F' σ' H' x1 r' sr' wp' => ⟨ρ', s1, h1, F', x.trans x1, r', sr', wp'⟩
      | dic _ => simp only [forL, e0] at wp; exact wp.elim
      | ins _ _ => simp only [forL, e0] at wp; exact wp.elim
      | ind _ _ => simp only [forL, e0] at wp; exact wp.elim
theorem ps_forD (hp : PassesOwn (model X.prog X.w) X.A X.env X.xe) (hc : X.calm = true) (hi : PI X tg iter (rdI G W A)) (hg : PG X tg (rdX G t)) (hb : PSs X sts (rdS G W a)) (hs : ∀ x, foldedSetIterable iter X.env x = pure x) :
    PS X (.For tg iter sts [] pos) (rdS G W (scFor A t a)) := (ps_for hp hc hi hg hb hs).weakL fun _ _ _ => for_of
end
end Lo
namespace Lo
open PySem PySem.Spec PyProof.Rows L2
def wipeD (s : Sl) : List Nat → Sl
  | [] => s
  | v :: vs => (wipeD s vs).set v none
theorem SRel.wipe {G : GI} {ρ : AM} {m : Nat} {F : Hp} {s : Sl} {σ : L2.St} (h : SRel G ρ m F s σ) : ∀ vs, SRel G ρ m F (wipeD s vs) (L2.wipe σ vs)
  | [] => h
  | v :: vs => by
    have ih := h.wipe vs
    unfold wipeD L2.wipe
    refine ⟨by rw [List.length_set, List.length_set]; exact ih.len, fun i d q => ?_⟩
    by_cases hi : v = i
    · subst hi
      by_cases hl : v < (wipeD s vs).length
      · rw [List.getElem?_set_self hl] at q; cases q
      · rw [List.getElem?_eq_none (by rw [List.length_set]; omega)] at q; cases q
    · rw [List.getElem?_set_ne hi] at q
      rw [List.getElem?_set_ne hi]
      exact ih.val i d q
theorem wipe_get (σ : L2.St) (vs : List Nat) (i : Nat) : (L2.wipe σ vs)[i]? = if i ∈ vs ∧ i < σ.length then some none else σ[i]? := by
  induction vs generalizing i with
  | nil => simp [L2.wipe]
  | cons v vs ih =>
    unfold L2.wipe
    by_cases hv : v = i
    · subst hv
      by_cases hl : v < σ.length
      · rw [List.getElem?_set_self (by rw [L2.wipe_length]; exact hl)]
        simp [hl]
      · rw [List.getElem?_eq_none (by rw [List.length_set, L2.wipe_length]; omega)]
        rw [if_neg (by omega), List.getElem?_eq_none (by omega)]
    · rw [List.getElem?_set_ne hv, ih i]
      have : (i ∈ v :: vs) ↔ i ∈ vs := by simp [Ne.symm hv]
      simp only [this]
theorem wipe_wipe (σ : L2.St) (vs : List Nat) : L2.wipe (L2.wipe σ vs) vs = L2.wipe σ vs := by
  refine List.ext_getElem? fun i => ?_
  rw [wipe_get, wipe_get, L2.wipe_length]
  split <;> rfl
def turnC {α : Type} (T : AcB) (E : Sl → List O → Res α) (s : Option Sl) (h : List O) : Res (Option α) := match s with
  | none => .no
  | some s => match T s h with
    | .ok true h1 => match E s h1 with
      | .ok y h2 => .ok (some y) h2
      | _ => .no
    | .ok false h1 => .ok none h1
    | _ => .no
def addC {α : Type} (acc : List α) : Option α → List α
  | some y => acc ++ [y]
  | none => acc
def compF {α : Type} (t : Tgt) (T : AcB) (E : Sl → List O → Res α) (s : Sl) : List D → List α → List O → Res (List α)
  | [], acc, h => .ok acc h
  | d :: ds, acc, h => (turnC T E (asgT t d s) h).bind fun y h1 => if acc.length < sizeLine then compF t T E s ds (addC acc y) h1 else .no
def compP {α : Type} (t : Tgt) (T : AcB) (E : Sl → List O → Res α) (s : Sl) : List (List D) → List α → List O → Res (List α)
  | [], acc, h => .ok acc h
  | d :: ds, acc, h => (turnC T E (match t with | .tp ts => asgTs ts d s | .nm _ => none) h).bind fun y h1 => if acc.length < sizeLine then compP t T E s ds (addC acc y) h1 else .no
def compL {α : Type} (t : Tgt) (T : AcB) (E : Sl → List O → Res α) (s : Sl) (n : Nat) : Nat → Nat → List α → List O → Res (List α)
  | 0, _, _, _ => .no
  | f + 1, i, acc, h => match h[n]? with
    | some (.lst xs) => match xs[i]? with
      | some d => (turnC T E (asgT t d s) h).bind fun y h1 => if acc.length < sizeLine then compL t T E s n f (i + 1) (addC acc y) h1 else .no
      | none => .ok acc h
    | _ => .no
def compS {α : Type} (t : Tgt) (T : AcB) (E : Sl → List O → Res α) (s : Sl) (src : Src) (h : List O) : Res (List α) := match src with
  | .fx xs => compF t T E s xs [] h
  | .pr xs => compP t T E s xs [] h
  | .lv n => compL t T E s n whlFuel 0 [] h
def acLc (lv : Bool) (A : AcI) (t : Tgt) (T : AcB) (E : Ac) (vs : List Nat) : Ac := fun s h => (A s h).bind fun src h1 => (compS t T E (wipeD s vs) src h1).bind fun ys h2 => Res.of (some (mkL lv ys h2))
def dictOf : List (Key × D) → List (Key × D) → List (Key × D)
  | acc, [] => acc
  | acc, (k, d) :: r => dictOf (putD acc k d) r
def acKV (A B : Ac) : Sl → List O → Res (Key × D) := fun s h => (A s h).bind fun d h1 => (B s h1).bind fun e h2 => match keyD d with
  | some k => .ok (k, e) h2
  | none => .no
def acDc (lv : Bool) (A : AcI) (t : Tgt) (T : AcB) (K E : Ac) (vs : List Nat) : Ac := fun s h => (A s h).bind fun src h1 => (compS t T (acKV K E) (wipeD s vs) src h1).bind fun ys h2 => Res.of (some (mkD lv (dictOf [] ys) h2))
section
variable {α : Type} {X : Cx} {G : GI} {W : WX} {A : AcI} {t : Tgt} {T : AcB} {E : Sl → List O → Res α} {vs : List Nat}
def TurnQ (G : GI) (T : AcB) (at_ : (ρ : AM) → (m : Nat) → (F : Hp) → List α → HO → Prop) (E : Sl → List O → Res α) (te : L2.St → Hp → Addr → (HO → Hp → Prop) → Prop) : Prop :=
  ∀ ρ s h F R σ H p acc o y h', Rel G ρ h F (upd R p o) H → R p = none → SRel G ρ h.length F s σ → at_ ρ h.length F acc o → acc.length < sizeLine → E s h = .ok y h' →
    ∀ Q : HO → Hp → Prop, (∀ ρ' F' H' o', Ext ρ h.length F ρ' h'.length F' → Rel G ρ' h' F' (upd R p o') H' → at_ ρ' h'.length F' (acc ++ [y]) o' → Q o' H') → te σ H p Q
theorem comp_loop {at_ : (ρ : AM) → (m : Nat) → (F : Hp) → List α → HO → Prop} (mono : ∀ {ρ m F ρ' m' F' xs o}, Ext ρ m F ρ' m' F' → at_ ρ m F xs o → at_ ρ' m' F' xs o)
    {te : L2.St → Hp → Addr → (HO → Hp → Prop) → Prop} (hE : TurnQ G T at_ E te) (hsl : ∀ i ∈ t.sl, i ∈ vs)
    {ρ0 : AM} {h0 : List O} {F0 R H1 : Hp} {s : Sl} {σ : L2.St} {src : Src} {J : It} {p : Addr} {o0 : HO} (r0 : Rel G ρ0 h0 F0 R H1) (sr0 : SRel G ρ0 h0.length F0 s σ) (li : LI G ρ0 h0.length F0 src J) (hp : H1 p = none) (a0 : at_ ρ0 h0.length F0 [] o0)
    {Qd : Hp → Prop} {ys : List α} {h' : List O} (hok : compS t T E (wipeD s vs) src h0 = .ok ys h') (hfin : ∀ ρ' F' H' o', Ext ρ0 h0.length F0 ρ' h'.length F' → Rel G ρ' h' F' (upd R p o') H' → at_ ρ' h'.length F' ys o' → Qd H') :
    ∃ W : Nat → Nat → Hp → Prop, (∃ m, W 0 m (upd H1 p o0)) ∧ ∀ i m H, W i m H → (J.stop i H ∧ Qd H) ∨ (J.go i H ∧ ∃ Nx : Hp → Prop, (∀ H', Nx H' → ∃ m', m' < m ∧ W (i + 1) m' H') ∧
      ∀ x H', J.yld i H x H' → rdX G t x (L2.wipe σ vs) H' fun σ2 H2 => L2.wipe σ2 vs = L2.wipe σ vs ∧ rdB G W0 T σ2 H2 fun b H3 => if b = true then te σ2 H3 p (fun o' H4 => Nx H4) else Nx H3) := by
  have rp : R p = none := r0.rnone hp
  -- one turn
  have turn : ∀ (ρ : AM) (h : List O) (F H : Hp) (o : HO) (acc : List α) (s2 : Sl) (σ2 : L2.St) (y : Option α) (h1 : List O) (Nx : Hp → Prop), Ext ρ0 h0.length F0 ρ h.length F → Rel G ρ h F (upd R p o) H → SRel G ρ h.length F s2 σ2 → at_ ρ h.length F acc o → acc.length < sizeLine →
      turnC T E (some s2) h = .ok y h1 → (∀ ρ' F' H' o', Ext ρ0 h0.length F0 ρ' h1.length F' → Rel G ρ' h1 F' (upd R p o') H' → at_ ρ' h1.length F' (addC acc y) o' → Nx H') →
      rdB G W0 T σ2 H fun b H3 => if b = true then te σ2 H3 p (fun o' H4 => Nx H4) else Nx H3 := by
    intro ρ h F H o acc s2 σ2 y h1 Nx x r sr ac hz e k
    refine ⟨ρ, s2, h, F, upd R p o, r, sr, ?_⟩
    unfold turnC at e
    simp only at e
    cases e1 : T s2 h with
    | ok b k1 =>
      rw [e1] at e
      intro ρ1 F1 b' H3 x1 r1 q
      have q : b = b' := q
      subst q
      cases b with
      | false =>
        simp only at e
        cases e
        rw [if_neg (by decide)]
        exact k ρ1 F1 H3 o (x.trans x1) r1 (mono x1 ac)
      | true =>
        simp only at e
        cases e2 : E s2 k1 with
        | ok z k2 =>
          rw [e2] at e
          cases e
          rw [if_pos rfl]
          exact hE ρ1 s2 k1 F1 R σ2 H3 p acc o z _ r1 rp (sr.mono x1) (mono x1 ac) hz e2 _ fun ρ' F' H' o' x2 r' a' => k ρ' F' H' o' ((x.trans x1).trans x2) r' a'
        | ex _ _ _ => rw [e2] at e; cases e
        | no => rw [e2] at e; cases e
    | ex _ _ _ => rw [e1] at e; cases e
    | no => rw [e1] at e; cases e
  have srw := sr0.wipe vs
  have start := r0.pin (o := o0) hp
  cases src with
  | fx xs =>
    obtain ⟨go, yl, st⟩ := li
    refine ⟨fun i m H => ∃ ρ h F o acc, Ext ρ0 h0.length F0 ρ h.length F ∧ Rel G ρ h F (upd R p o) H ∧ at_ ρ h.length F acc o ∧ i ≤ xs.length ∧ m = xs.length - i ∧ compF t T E (wipeD s vs) (xs.drop i) acc h = .ok ys h',
      ⟨_, ρ0, h0, F0, o0, [], Ext.refl _ _ _, start, a0, Nat.zero_le _, rfl, hok⟩, ?_⟩
    rintro i m H ⟨ρ, h, F, o, acc, x, r, ac, hi, rfl, ok⟩
    by_cases hl : i < xs.length
    · obtain ⟨d, hd⟩ : ∃ d, xs[i]? = some d := ⟨_, List.getElem?_eq_getElem hl⟩
      rw [drop_of hd] at ok
      simp only [compF] at ok
      cases e1 : turnC T E (asgT t d (wipeD s vs)) h with
      | ex _ _ _ => rw [e1] at ok; cases ok
      | no => rw [e1] at ok; cases ok
      | ok y h1 =>
        rw [e1] at ok
        simp only [Res.bind] at ok
        by_cases hz : acc.length < sizeLine
        · rw [if_pos hz] at ok
          refine .inr ⟨go i ρ h F _ H x r hl, fun H => ∃ ρ F o, Ext ρ0 h0.length F0 ρ h1.length F ∧ Rel G ρ h1 F (upd R p o) H ∧ at_ ρ h1.length F (addC acc y) o, fun H' ⟨ρ', F', o', x', r', a'⟩ => ⟨_, by omega, ρ', h1, F', o', _, x', r', a', hl, rfl, ok⟩, fun v H' yy => ?_⟩
          obtain ⟨eH, q⟩ := yl i ρ h F _ H v H' d x r yy hd
          subst eH
          cases e2 : asgT t d (wipeD s vs) with
          | none => rw [e2] at e1; cases e1
          | some s2 =>
            rw [e2] at e1
            exact rdX_of ⟨ρ, h, F, _, d, _, s2, r, q, srw.mono x, e2, fun σ2 sr2 sm => ⟨(sm.wipe hsl).trans (wipe_wipe _ _), turn ρ h F H' o acc s2 σ2 y h1 _ x r sr2 ac hz e1 fun ρ' F' H' o' x' r' a' => ⟨ρ', F', o', x', r', a'⟩⟩⟩
        · rw [if_neg hz] at ok; cases ok
    · have e : i = xs.length := by omega
      subst e
      rw [List.drop_length] at ok
      cases ok
      exact .inl ⟨st ρ _ F _ H x r, hfin ρ F H o x r ac⟩
  | pr xs =>
    obtain ⟨go, yl, st⟩ := li
    refine ⟨fun i m H => ∃ ρ h F o acc, Ext ρ0 h0.length F0 ρ h.length F ∧ Rel G ρ h F (upd R p o) H ∧ at_ ρ h.length F acc o ∧ i ≤ xs.length ∧ m = xs.length - i ∧ compP t T E (wipeD s vs) (xs.drop i) acc h = .ok ys h',
      ⟨_, ρ0, h0, F0, o0, [], Ext.refl _ _ _, start, a0, Nat.zero_le _, rfl, hok⟩, ?_⟩
    rintro i m H ⟨ρ, h, F, o, acc, x, r, ac, hi, rfl, ok⟩
    by_cases hl : i < xs.length
    · obtain ⟨d, hd⟩ : ∃ d, xs[i]? = some d := ⟨_, List.getElem?_eq_getElem hl⟩
      rw [drop_of hd] at ok
      cases t with
      | nm _ => simp only [compP, turnC] at ok; cases ok
      | tp ts =>
      simp only [compP] at ok
      cases e1 : turnC T E (asgTs ts d (wipeD s vs)) h with
      | ex _ _ _ => rw [e1] at ok; cases ok
      | no => rw [e1] at ok; cases ok
      | ok y h1 =>
        rw [e1] at ok
        simp only [Res.bind] at ok
        by_cases hz : acc.length < sizeLine
        · rw [if_pos hz] at ok
          refine .inr ⟨go i ρ h F _ H x r hl, fun H => ∃ ρ F o, Ext ρ0 h0.length F0 ρ h1.length F ∧ Rel G ρ h1 F (upd R p o) H ∧ at_ ρ h1.length F (addC acc y) o, fun H' ⟨ρ', F', o', x', r', a'⟩ => ⟨_, by omega, ρ', h1, F', o', _, x', r', a', hl, rfl, ok⟩, fun v H' yy => ?_⟩
          obtain ⟨Ta, ws, ev, hT, eH, q⟩ := yl i ρ h F _ H v H' d x r yy hd
          subst eH ev
          cases e2 : asgTs ts d (wipeD s vs) with
          | none => rw [e2] at e1; cases e1
          | some s2 =>
            rw [e2] at e1
            exact ⟨Ta, ws, rfl, .inl (.inl upd_same), by rw [← q.length]; exact asgTs_len e2, ρ, h, F, _, d, _, s2, r.junk hT, q, srw.mono x, e2, fun σ2 sr2 sm => ⟨(Same.wipe sm hsl).trans (wipe_wipe _ _), turn ρ h F _ o acc s2 σ2 y h1 _ x (r.junk hT) sr2 ac hz e1 fun ρ' F' H' o' x' r' a' => ⟨ρ', F', o', x', r', a'⟩⟩⟩
        · rw [if_neg hz] at ok; cases ok
    · have e : i = xs.length := by omega
      subst e
      rw [List.drop_length] at ok
      cases ok
      exact .inl ⟨st ρ _ F _ H x r, hfin ρ F H o x r ac⟩
  | lv n =>
    obtain ⟨eJ, hn⟩ := li
    subst eJ
    refine ⟨fun i m H => ∃ ρ h F o acc, Ext ρ0 h0.length F0 ρ h.length F ∧ Rel G ρ h F (upd R p o) H ∧ at_ ρ h.length F acc o ∧ compL t T E (wipeD s vs) n m i acc h = .ok ys h',
      ⟨_, ρ0, h0, F0, o0, [], Ext.refl _ _ _, start, a0, hok⟩, ?_⟩
    rintro i m H ⟨ρ, h, F, o, acc, x, r, ac, ok⟩
    cases m with
    | zero => cases ok
    | succ m =>
    have en : ρ.ob n = ρ0.ob n := x.same n hn
    cases e0 : h[n]? with
    | none => simp only [compL, e0] at ok; cases ok
    | some ob =>
      cases ob with
      | lst xs =>
        obtain ⟨ws, h1', h2⟩ := r.lv n _ e0
        rw [en] at h1'
        simp only [compL, e0] at ok
        cases e3 : xs[i]? with
        | none =>
          rw [e3] at ok
          simp only at ok
          cases ok
          exact .inl ⟨⟨ws, SqL.of h1', by rw [← h2.length]; exact List.getElem?_eq_none_iff.mp e3⟩, hfin ρ F H o x r ac⟩
        | some d =>
          rw [e3] at ok
          simp only at ok
          obtain ⟨v, hv, q⟩ := h2.get e3
          cases e1 : turnC T E (asgT t d (wipeD s vs)) h with
          | ex _ _ _ => rw [e1] at ok; cases ok
          | no => rw [e1] at ok; cases ok
          | ok y h1 =>
            rw [e1] at ok
            simp only [Res.bind] at ok
            by_cases hz : acc.length < sizeLine
            · rw [if_pos hz] at ok
              refine .inr ⟨⟨ws, v, SqL.of h1', hv⟩, fun H => ∃ ρ F o, Ext ρ0 h0.length F0 ρ h1.length F ∧ Rel G ρ h1 F (upd R p o) H ∧ at_ ρ h1.length F (addC acc y) o, fun H' ⟨ρ', F', o', x', r', a'⟩ => ⟨m, Nat.lt_succ_self m, ρ', h1, F', o', _, x', r', a', ok⟩, fun w H' yy => ?_⟩
              obtain ⟨eH, yy⟩ := yy
              subst eH
              have ev : w = v := by
                have := yy ws (SqL.of h1')
                rw [hv] at this
                exact (Option.some.inj this).symm
              subst ev
              cases e2 : asgT t d (wipeD s vs) with
              | none => rw [e2] at e1; cases e1
              | some s2 =>
                rw [e2] at e1
                exact rdX_of ⟨ρ, h, F, _, d, _, s2, r, q, srw.mono x, e2, fun σ2 sr2 sm => ⟨(sm.wipe hsl).trans (wipe_wipe _ _), turn ρ h F H' o acc s2 σ2 y h1 _ x r sr2 ac hz e1 fun ρ' F' H' o' x' r' a' => ⟨ρ', F', o', x', r', a'⟩⟩⟩
            · rw [if_neg hz] at ok; cases ok
      | dic _ => simp only [compL, e0] at ok; cases ok
      | ins _ _ => simp only [compL, e0] at ok; cases ok
      | ind _ _ => simp only [compL, e0] at ok; cases ok
theorem turnC_noex (s : Option Sl) (h : List O) {c fs h'} : turnC T E s h ≠ .ex c fs h' := by
  unfold turnC
  repeat' split
  all_goals exact fun z => nomatch z
theorem bind_noex {β γ : Type} {r : Res β} {k : β → List O → Res γ} (hr : ∀ c fs h, r ≠ .ex c fs h) (hk : ∀ a h c fs h', k a h ≠ .ex c fs h') {c fs h'} : r.bind k ≠ .ex c fs h' := by
  cases r with
  | ok a h => exact hk a h c fs h'
  | ex c fs h => exact absurd rfl (hr c fs h)
  | no => exact fun z => nomatch z
theorem compF_noex (s : Sl) : ∀ (xs : List D) (acc : List α) (h : List O) c fs h', compF t T E s xs acc h ≠ .ex c fs h'
  | [], acc, h, c, fs, h' => fun z => nomatch z
  | d :: ds, acc, h, c, fs, h' => bind_noex (fun _ _ _ => turnC_noex _ _) fun y h1 c fs h' => by
    split
    · exact compF_noex s ds _ _ _ _ _
    · exact fun z => nomatch z
theorem compP_noex (s : Sl) : ∀ (xs : List (List D)) (acc : List α) (h : List O) c fs h', compP t T E s xs acc h ≠ .ex c fs h'
  | [], acc, h, c, fs, h' => fun z => nomatch z
  | d :: ds, acc, h, c, fs, h' => bind_noex (fun _ _ _ => turnC_noex _ _) fun y h1 c fs h' => by
    split
    · exact compP_noex s ds _ _ _ _ _
    · exact fun z => nomatch z
theorem compL_noex (s : Sl) (n : Nat) : ∀ (f i : Nat) (acc : List α) (h : List O) c fs h', compL t T E s n f i acc h ≠ .ex c fs h'
  | 0, i, acc, h, c, fs, h' => fun z => nomatch z
  | f + 1, i, acc, h, c, fs, h' => by
    unfold compL
    split
    · split
      · refine bind_noex (fun _ _ _ => turnC_noex _ _) fun y h1 c fs h' => ?_
        split
        · exact compL_noex s n f _ _ _ _ _ _
        · exact fun z => nomatch z
      · exact fun z => nomatch z
    · exact fun z => nomatch z
theorem compS_noex (s : Sl) (src : Src) (h : List O) {c fs h'} : compS t T E s src h ≠ .ex c fs h' := by
  cases src with
  | fx xs => exact compF_noex _ _ _ _ _ _ _
  | pr xs => exact compP_noex _ _ _ _ _ _ _
  | lv n => exact compL_noex _ _ _ _ _ _ _ _ _
theorem lc_of {lv : Bool} {E : Ac} {σ : L2.St} {H : Hp} {Q : VK} (hsl : ∀ i ∈ t.sl, i ∈ vs) (h : rd G W (acLc lv A t T E vs) σ H Q) : tLc (rdI G W A) (rdX G t) (rdB G W0 T) (rd G W0 E) vs σ H Q := by
  obtain ⟨ρ, s, h, F, R, r, sr, wp⟩ := h
  refine step (L := LI G) r sr wp fun ρ0 h0 F0 src J H0 x0 r0 li wp0 => ?_
  intro p hp
  have rp : R p = none := r0.rnone hp
  cases e : compS t T E (wipeD s vs) src h0 with
  | ex _ _ _ => exact absurd e (compS_noex _ _ _)
  | no => rw [e] at wp0; exact wp0.elim
  | ok ys h' =>
    rw [e] at wp0
    simp only [Res.bind] at wp0
    refine comp_loop (G := G) (at_ := fun ρ m F xs o => ∃ ws, o = .lst ws ∧ RDs G ρ m F xs ws) (fun x ⟨ws, e, q⟩ => ⟨ws, e, q.mono x⟩)
      (te := fun σ2 H3 p k => rd G W0 E σ2 H3 fun y H4 => ∃ acc, H4 p = some (.lst acc) ∧ acc.length < sizeLine ∧ k (.lst (acc ++ [y])) (upd H4 p (.lst (acc ++ [y])))) ?_ hsl r0 (sr.mono x0) li hp (o0 := .lst []) ⟨[], rfl, .nil⟩ e ?_
    · intro ρ s h F R σ H p acc o y h' r rp sr ⟨ws, eo, q⟩ hz e Q k
      subst eo
      refine ⟨ρ, s, h, F, _, r, sr, ?_⟩
      rw [e]
      intro ρ' F' v H' x r' qv
      refine ⟨ws, r'.rs p _ upd_same, by rw [← q.length]; exact hz, k ρ' F' _ _ x (r'.repin rp) ⟨_, rfl, (q.mono x).append (.cons qv .nil)⟩⟩
    · intro ρ' F' H' o' x r' ⟨ws, eo, q⟩
      subst eo
      have := wp_mkL (p := p) (r'.unpin rp) (Wp.rebase x wp0) era_same q
      rw [upd_era, upd_id (r'.rs p _ upd_same)] at this
      exact this
theorem dictOf_snoc : ∀ (xs : List (Key × D)) (acc : List (Key × D)) (k : Key) (d : D), dictOf acc (xs ++ [(k, d)]) = putD (dictOf acc xs) k d
  | [], acc, k, d => rfl
  | (k', d') :: r, acc, k, d => dictOf_snoc r (putD acc k' d') k d
theorem putD_len (kvs : List (Key × D)) (k : Key) (d : D) : (putD kvs k d).length ≤ kvs.length + 1 := by
  unfold putD
  split <;> simp
theorem dictOf_len : ∀ (xs acc : List (Key × D)), (dictOf acc xs).length ≤ acc.length + xs.length
  | [], acc => Nat.le_refl _
  | (k, d) :: r, acc => by
    have := dictOf_len r (putD acc k d)
    have := putD_len acc k d
    simp only [dictOf, List.length_cons]
    omega
theorem dc_of {lv : Bool} {K E : Ac} {σ : L2.St} {H : Hp} {Q : VK} (hsl : ∀ i ∈ t.sl, i ∈ vs) (h : rd G W (acDc lv A t T K E vs) σ H Q) : tDc (rdI G W A) (rdX G t) (rdB G W0 T) (rd G W0 K) (rd G W0 E) vs σ H Q := by
  obtain ⟨ρ, s, h, F, R, r, sr, wp⟩ := h
  refine step (L := LI G) r sr wp fun ρ0 h0 F0 src J H0 x0 r0 li wp0 => ?_
  intro p hp
  have rp : R p = none := r0.rnone hp
  cases e : compS t T (acKV K E) (wipeD s vs) src h0 with
  | ex _ _ _ => exact absurd e (compS_noex _ _ _)
  | no => rw [e] at wp0; exact wp0.elim
  | ok ys h' =>
    rw [e] at wp0
    simp only [Res.bind] at wp0
    refine comp_loop (G := G) (at_ := fun ρ m F xs o => ∃ ws, o = .dK ws ∧ RDk G ρ m F (dictOf [] xs) ws) (fun x ⟨ws, e, q⟩ => ⟨ws, e, q.mono x⟩)
      (te := fun σ2 H3 p k => rd G W0 K σ2 H3 fun y H4 => rd G W0 E σ2 H4 fun z H5 => ∃ kvs k', y = kV k' ∧ H5 p = some (.dK kvs) ∧ kvs.length < sizeLine ∧ k (.dK (putK kvs k' z)) (upd H5 p (.dK (putK kvs k' z)))) ?_ hsl r0 (sr.mono x0) li hp (o0 := .dK []) ⟨[], rfl, .nil⟩ e ?_
    · intro ρ s h F R σ H p acc o y h' r rp sr ⟨ws, eo, q⟩ hz e Q k
      subst eo
      refine ⟨ρ, s, h, F, _, r, sr, ?_⟩
      unfold acKV at e
      cases e1 : K s h with
      | ex _ _ _ => rw [e1] at e; cases e
      | no => rw [e1] at e; cases e
      | ok dk k1 =>
        rw [e1] at e
        simp only [Res.bind] at e
        intro ρ1 F1 v1 H1 x1 r1 q1
        refine ⟨ρ1, s, k1, F1, _, r1, sr.mono x1, ?_⟩
        cases e2 : E s k1 with
        | ex _ _ _ => rw [e2] at e; cases e
        | no => rw [e2] at e; cases e
        | ok de k2 =>
          rw [e2] at e
          simp only at e
          intro ρ2 F2 v2 H2 x2 r2 q2
          cases e3 : keyD dk with
          | none => rw [e3] at e; cases e
          | some kk =>
            rw [e3] at e
            cases e
            have := dictOf_len acc []
            simp only [List.length_nil] at this
            refine ⟨ws, kk, keyD_rd e3 q1, r2.rs p _ upd_same, by rw [← q.length]; omega, k ρ2 F2 _ _ (x1.trans x2) (r2.repin rp) ⟨_, rfl, ?_⟩⟩
            rw [dictOf_snoc]
            exact (q.mono (x1.trans x2)).put q2
    · intro ρ' F' H' o' x r' ⟨ws, eo, q⟩
      subst eo
      have := wp_mkD (p := p) (r'.unpin rp) (Wp.rebase x wp0) era_same q
      rw [upd_era, upd_id (r'.rs p _ upd_same)] at this
      exact this
end
def tbYes : AcB := fun _ h => .ok true h
section
variable {X : Cx} {G : GI} {W : WX} {T : AcB}
theorem _root_.L2.PTs.weakL {X : Cx} {e : List Expr} {t t' : TT} (h : PTs X e t) (i : ∀ σ H Q, t' σ H Q → t σ H Q) : PTs X e t' := ⟨fun pins s σ H Q I q => h.run pins s σ H Q I (i σ H Q q)⟩
theorem pts_nilD : PTs X [] (rdB G W tbYes) := pts_nil.weakL fun σ H Q ⟨ρ, s, h, F, R, r, sr, wp⟩ => wp ρ F true H (Ext.refl _ _ _) r rfl
theorem pts_oneD {c : Expr} (h : PT X c (rdB G W T)) : PTs X [c] (rdB G W T) := pts_one h
end
section
variable {X : Cx} {G : GI} {W : WX} {elt kx tg iter : Expr} {ifs : List Expr} {scope : Scope} {own : List (Str × Nat)} {pos spos : Pos} {A : AcI} {t : Tgt} {T : AcB} {K E : Ac}
theorem pe_lcD (lv : Bool) (hc : X.calm = true) (hN : X.N.Nodup) (hi : PI X tg iter (rdI G W A)) (ok : BlkOk X.N X.env.scope scope own) (hsl : ∀ i ∈ t.sl, i ∈ own.map (·.2))
    (hg : ∀ (s : Shared) (H : Hp) (C : Addr) (cl : List (Str × Addr)) (fp : List Addr), PG (X.blk s H scope (compEnvC scope cl C X.env) fp) tg (rdX G t)) (ht : ∀ (s : Shared) (H : Hp) (C : Addr) (cl : List (Str × Addr)) (fp : List Addr), PTs (X.blk s H scope (compEnvC scope cl C X.env) fp) ifs (rdB G W0 T))
    (he : ∀ (s : Shared) (H : Hp) (C : Addr) (cl : List (Str × Addr)) (fp : List Addr), PE (X.blk s H scope (compEnvC scope cl C X.env) fp) elt (rd G W0 E)) (hs : ∀ x, foldedSetIterable iter X.env x = pure x) :
    PE X (.ListComp elt [⟨tg, iter, ifs, 0⟩] scope pos) (rd G W (acLc lv A t T E (own.map (·.2)))) := (pe_lc hc hN hi ok hg ht he hs).weakL fun _ _ _ => lc_of hsl
theorem pe_dcD (lv : Bool) (hc : X.calm = true) (hN : X.N.Nodup) (hi : PI X tg iter (rdI G W A)) (ok : BlkOk X.N X.env.scope scope own) (hsl : ∀ i ∈ t.sl, i ∈ own.map (·.2))
    (hg : ∀ (s : Shared) (H : Hp) (C : Addr) (cl : List (Str × Addr)) (fp : List Addr), PG (X.blk s H scope (compEnvC scope cl C X.env) fp) tg (rdX G t)) (ht : ∀ (s : Shared) (H : Hp) (C : Addr) (cl : List (Str × Addr)) (fp : List Addr), PTs (X.blk s H scope (compEnvC scope cl C X.env) fp) ifs (rdB G W0 T))
    (hk : ∀ (s : Shared) (H : Hp) (C : Addr) (cl : List (Str × Addr)) (fp : List Addr), PE (X.blk s H scope (compEnvC scope cl C X.env) fp) kx (rd G W0 K))
    (he : ∀ (s : Shared) (H : Hp) (C : Addr) (cl : List (Str × Addr)) (fp : List Addr), PE (X.blk s H scope (compEnvC scope cl C X.env) fp) elt (rd G W0 E)) (hs : ∀ x, foldedSetIterable iter X.env x = pure x) :
    PE X (.DictComp kx elt [⟨tg, iter, ifs, 0⟩] scope pos) (rd G W (acDc lv A t T K E (own.map (·.2)))) := (pe_dc hc hN hi ok hg ht hk he hs).weakL fun _ _ _ => dc_of hsl
theorem ps_setLcD (lv : Bool) {i : Nat} {y : Str} {py : Pos} (hc : X.calm = true) (hN : X.N.Nodup) (hy : X.N[i]? = some y) (hyl : X.env.scope.names.lookup y = some .local)
    (hsw : swapsWith (.ListComp elt [⟨tg, iter, ifs, 0⟩] scope pos) (some (.Name y py)) spos.line X.env = pure true) (hi : PI X tg iter (rdI G W A)) (ok : BlkOk X.N X.env.scope scope own) (hsl : ∀ i ∈ t.sl, i ∈ own.map (·.2))
    (hg : ∀ (s : Shared) (H : Hp) (C : Addr) (cl : List (Str × Addr)) (fp : List Addr), PG (X.blk s H scope (compEnvC scope cl C X.env) fp) tg (rdX G t)) (ht : ∀ (s : Shared) (H : Hp) (C : Addr) (cl : List (Str × Addr)) (fp : List Addr), PTs (X.blk s H scope (compEnvC scope cl C X.env) fp) ifs (rdB G W0 T))
    (he : ∀ (s : Shared) (H : Hp) (C : Addr) (cl : List (Str × Addr)) (fp : List Addr), PE (X.blk s H scope (compEnvC scope cl C X.env) fp) elt (rd G W0 E)) (hs : ∀ x, foldedSetIterable iter X.env x = pure x) :
    PS X (.Assign [.Name y py] (.ListComp elt [⟨tg, iter, ifs, 0⟩] scope pos) spos) (rdS G W (scSet (.nm i) (acLc lv A t T E (own.map (·.2))))) :=
  (ps_setLc hc hN hy hyl hsw hi ok hg ht he hs).weakL fun D σ H h => by
    obtain ⟨ρ, s, h, F, R, r, sr, wp⟩ := h
    refine lc_of (lv := lv) hsl (stepS (L := LD G) r sr wp fun ρ1 h1 F1 d v H1 x r1 q wp1 => ?_)
    exact wp1 ρ1 F1 _ H1 (Ext.refl _ _ _) r1 ((sr.mono x).set q)
theorem ps_setDc {i : Nat} {y : Str} {py : Pos} {wi : TI} {g : TG} {tt : TT} {tk te : TE} (hc : X.calm = true) (hN : X.N.Nodup) (hy : X.N[i]? = some y) (hyl : X.env.scope.names.lookup y = some .local)
    (hsw : swapsWith (.DictComp kx elt [⟨tg, iter, ifs, 0⟩] scope pos) (some (.Name y py)) spos.line X.env = pure true) (hi : PI X tg iter wi) (ok : BlkOk X.N X.env.scope scope own)
    (hg : ∀ (s : Shared) (H : Hp) (C : Addr) (cl : List (Str × Addr)) (fp : List Addr), PG (X.blk s H scope (compEnvC scope cl C X.env) fp) tg g) (ht : ∀ (s : Shared) (H : Hp) (C : Addr) (cl : List (Str × Addr)) (fp : List Addr), PTs (X.blk s H scope (compEnvC scope cl C X.env) fp) ifs tt)
    (hk : ∀ (s : Shared) (H : Hp) (C : Addr) (cl : List (Str × Addr)) (fp : List Addr), PE (X.blk s H scope (compEnvC scope cl C X.env) fp) kx tk)
    (he : ∀ (s : Shared) (H : Hp) (C : Addr) (cl : List (Str × Addr)) (fp : List Addr), PE (X.blk s H scope (compEnvC scope cl C X.env) fp) elt te) (hs : ∀ x, foldedSetIterable iter X.env x = pure x) :
    PS X (.Assign [.Name y py] (.DictComp kx elt [⟨tg, iter, ifs, 0⟩] scope pos) spos) (tAsg (tDc wi g tt tk te (own.map (·.2))) (gName i)) := by
  refine ⟨fun pins s σ H D I h => ?_⟩
  rw [exec_Assign_Name_used _ _ _ _ hsw]
  refine wpAny_bind (wpAny_standAt (wpAny_bind ?_))
  show wpAny _ X.A (do let _ ← comprehension (.DictComp kx elt [⟨tg, iter, ifs, 0⟩] scope pos) scope X.env (firstIterPos [⟨tg, iter, ifs, 0⟩] pos) newDict false (eval iter X.env) (some (assign (.Name y py) X.env))) _ _ s
  have h : tDc wi g tt tk te (own.map (·.2)) σ H (fun x H1 => gName i x σ H1 D.nx) := h
  refine wpAny_bind (thn (dc_core (Qf := fun _ s' => SP X pins D .next s') hc hN I hi ok hg ht hk he hs h fun L C s' m H' I' q hn f => ?_) fun _ s' hq => wpAny_pure (wpAny_pure hq))
  show wpAny _ _ (assign (.Name y py) X.env (.ref L)) _ _ _
  refine wpAny_assign_Name (store_ok2 (v := V.ref L) I' hN hy (.inl hyl) rfl (fun s2 I2 ⟨a, sb, ha⟩ => ?_) (.inr hyl))
  obtain ⟨f0, f1, f2, f3, f4, f5⟩ := f
  have haC : C ≠ a := by
    rcases ha with z | z
    · rw [z]; exact f1
    · exact fun e => f4 y a z e.symm
  refine ⟨m, hn.sameBut sb haC, fun h3 sb3 => ?_⟩
  exact ⟨_, H', I2.turned (t' := s2.toks) (fun b o hb e => (sb3.2 b hb).trans e) f0 f1 f3 f4 f5, q⟩
theorem ps_setDcD (lv : Bool) {i : Nat} {y : Str} {py : Pos} (hc : X.calm = true) (hN : X.N.Nodup) (hy : X.N[i]? = some y) (hyl : X.env.scope.names.lookup y = some .local)
    (hsw : swapsWith (.DictComp kx elt [⟨tg, iter, ifs, 0⟩] scope pos) (some (.Name y py)) spos.line X.env = pure true) (hi : PI X tg iter (rdI G W A)) (ok : BlkOk X.N X.env.scope scope own) (hsl : ∀ i ∈ t.sl, i ∈ own.map (·.2))
    (hg : ∀ (s : Shared) (H : Hp) (C : Addr) (cl : List (Str × Addr)) (fp : List Addr), PG (X.blk s H scope (compEnvC scope cl C X.env) fp) tg (rdX G t)) (ht : ∀ (s : Shared) (H : Hp) (C : Addr) (cl : List (Str × Addr)) (fp : List Addr), PTs (X.blk s H scope (compEnvC scope cl C X.env) fp) ifs (rdB G W0 T))
    (hk : ∀ (s : Shared) (H : Hp) (C : Addr) (cl : List (Str × Addr)) (fp : List Addr), PE (X.blk s H scope (compEnvC scope cl C X.env) fp) kx (rd G W0 K))
    (he : ∀ (s : Shared) (H : Hp) (C : Addr) (cl : List (Str × Addr)) (fp : List Addr), PE (X.blk s H scope (compEnvC scope cl C X.env) fp) elt (rd G W0 E)) (hs : ∀ x, foldedSetIterable iter X.env x = pure x) :
    PS X (.Assign [.Name y py] (.DictComp kx elt [⟨tg, iter, ifs, 0⟩] scope pos) spos) (rdS G W (scSet (.nm i) (acDc lv A t T K E (own.map (·.2))))) :=
  (ps_setDc hc hN hy hyl hsw hi ok hg ht hk he hs).weakL fun D σ H h => by
    obtain ⟨ρ, s, h, F, R, r, sr, wp⟩ := h
    refine dc_of (lv := lv) hsl (stepS (L := LD G) r sr wp fun ρ1 h1 F1 d v H1 x r1 q wp1 => ?_)
    exact wp1 ρ1 F1 _ H1 (Ext.refl _ _ _) r1 ((sr.mono x).set q)
end
end Lo
namespace Lo
open PySem PySem.Spec PyProof.Rows L2
def charsD (x : Str) : List D := x.cps.toList.map fun c => .str ⟨#[c]⟩
def srcOf (h : List O) : D → Option Src
  | .tup xs => some (.fx xs)
  | .lst xs => some (.fx xs)
  | .scr xs => some (.fx xs)
  | .str x => some (.fx (charsD x))
  | .dic kvs => some (.fx (kvs.map fun kv => dK kv.1))
  | .loc n => match h[n]? with
    | some (.lst _) => some (.lv n)
    | _ => none
  | _ => none
def acIt (A : Ac) : AcI := fun s h => (A s h).bind fun d h1 => match srcOf h1 d with
  | some x => .ok x h1
  | none => .no
def rngD (i : Int) : Nat → List D
  | 0 => []
  | n + 1 => .int i :: rngD (i + 1) n
def acRng1 (A : Ac) : AcI := fun s h => (A s h).bind fun d h1 => match d with
  | .int j => if -(2 ^ 62) ≤ j ∧ j < 2 ^ 62 then .ok (.fx (rngD 0 j.toNat)) h1 else .no
  | _ => .no
def acRng2 (A B : Ac) : AcI := fun s h => (A s h).bind fun d h1 => (B s h1).bind fun e h2 => match d, e with
  | .int i, .int j => if -(2 ^ 62) ≤ i ∧ i < 2 ^ 62 ∧ -(2 ^ 62) ≤ j ∧ j < 2 ^ 62 then .ok (.fx (rngD i (j - i).toNat)) h2 else .no
  | _, _ => .no
def itemsK (d : D) : Option (List D) := match d with
  | .tup xs => some xs
  | .lst xs => some xs
  | .scr xs => some xs
  | .str x => some (charsD x)
  | _ => none
def numD : Nat → List D → List (List D)
  | _, [] => []
  | i, d :: r => [.int (i : Nat), d] :: numD (i + 1) r
def acEnum (A : Ac) : AcI := fun s h => (A s h).bind fun d h1 => match itemsK d with
  | some xs => .ok (.pr (numD 0 xs)) h1
  | none => .no
def zipD : List D → List D → List (List D)
  | x :: xs, y :: ys => [x, y] :: zipD xs ys
  | _, _ => []
def acZip (A B : Ac) : AcI := fun s h => (A s h).bind fun d h1 => (B s h1).bind fun e h2 => match itemsK d, itemsK e with
  | some xs, some ys => .ok (.pr (zipD xs ys)) h2
  | _, _ => .no
def acDic (f : List (Key × D) → Src) (A : Ac) : AcI := fun s h => (A s h).bind fun d h1 => match d with
  | .dic kvs => .ok (f kvs) h1
  | _ => .no
def valsS (kvs : List (Key × D)) : Src := .fx (kvs.map (·.2))
def keysS (kvs : List (Key × D)) : Src := .fx (kvs.map fun kv => dK kv.1)
def itemsS (kvs : List (Key × D)) : Src := .pr (kvs.map fun kv => [dK kv.1, kv.2])
section
variable {G : GI}
theorem li_list {ρ : AM} {m : Nat} {F : Hp} {a : Addr} {xs : List D} {vs : List V} (hs : ∀ {ρ' : AM} {h' : List O} {F' R' H' : Hp}, Ext ρ m F ρ' h'.length F' → Rel G ρ' h' F' R' H' → SqL G.K H' a vs) (q : RDs G ρ m F xs vs) : LI G ρ m F (.fx xs) (Itl G.K a) := by
  refine ⟨fun i ρ' h F' R H x r hl => ?_, fun i ρ' h F' R H v H' d x r y hd => ?_, fun ρ' h F' R H x r => ⟨vs, hs x r, by rw [q.length]; exact Nat.le_refl _⟩⟩
  · obtain ⟨v, hv, _⟩ := q.get (List.getElem?_eq_getElem hl)
    exact ⟨vs, v, hs x r, hv⟩
  · obtain ⟨v', hv, rv⟩ := q.get hd
    have := y.2 vs (hs x r)
    rw [hv] at this
    cases this
    exact ⟨y.1, rv.mono x⟩
theorem li_tup {ρ : AM} {m : Nat} {F : Hp} {a : Addr} {xs : List D} {vs : List V} (ha : TupAt G.K F a vs) (q : RDs G ρ m F xs vs) : LI G ρ m F (.fx xs) (Itt G.K a) := by
  have hs : ∀ {ρ' : AM} {h' : List O} {F' R' H' : Hp}, Ext ρ m F ρ' h'.length F' → Rel G ρ' h' F' R' H' → SqT G.K H' a vs := fun x r => (r.fr.tupAt (x.sub.tupAt ha)).sq
  refine ⟨fun i ρ' h F' R H x r hl => ?_, fun i ρ' h F' R H v H' d x r y hd => ?_, fun ρ' h F' R H x r => ⟨vs, hs x r, by rw [q.length]; exact Nat.le_refl _⟩⟩
  · obtain ⟨v, hv, _⟩ := q.get (List.getElem?_eq_getElem hl)
    exact ⟨vs, v, hs x r, hv⟩
  · obtain ⟨v', hv, rv⟩ := q.get hd
    have := y.2 vs (hs x r)
    rw [hv] at this
    cases this
    exact ⟨y.1, rv.mono x⟩
theorem rds_chars {ρ : AM} {m : Nat} {F : Hp} : ∀ (cs : List Nat), RDs G ρ m F (cs.map fun c => D.str ⟨#[c]⟩) (cs.map fun c => V.str ⟨#[c]⟩)
  | [] => .nil
  | c :: r => .cons (.str _) (rds_chars r)
theorem li_str {ρ : AM} {m : Nat} {F : Hp} {x : Str} : LI G ρ m F (.fx (charsD x)) (Its x) := by
  have hl : (charsD x).length = x.cps.size := by simp [charsD]
  refine ⟨fun i ρ' h F' R H e r hi => by rw [hl] at hi; exact hi, fun i ρ' h F' R H v H' d e r y hd => ?_, fun ρ' h F' R H e r => by rw [hl]; exact Nat.le_refl _⟩
  obtain ⟨eH, c, hc, ev⟩ := y
  subst ev
  refine ⟨eH, ?_⟩
  have : (charsD x)[i]? = some (.str ⟨#[c]⟩) := by
    simp only [charsD, List.getElem?_map, Array.getElem?_toList, hc]
    rfl
  rw [this] at hd
  cases hd
  exact .str _
theorem rd_key {ρ : AM} {m : Nat} {F : Hp} (k : Key) : RD G ρ m F (dK k) (kV k) := by
  cases k with
  | inl i => exact .int i
  | inr x => exact .str x
theorem rdk_get {ρ : AM} {m : Nat} {F : Hp} : ∀ {kvs : List (Key × D)} {ks : List (Key × V)} {i : Nat} {k : Key} {v : V}, RDk G ρ m F kvs ks → ks[i]? = some (k, v) → ∃ d, kvs[i]? = some (k, d) ∧ RD G ρ m F d v
  | [], _, i, k, v, h, e => by cases h; simp at e
  | (k', d') :: r, _, 0, k, v, h, e => by cases h with | cons a b => simp at e; obtain ⟨e1, e2⟩ := e; subst e1 e2; exact ⟨d', rfl, a⟩
  | (k', d') :: r, _, i + 1, k, v, h, e => by cases h with | cons a b => simp at e; obtain ⟨d, h1, h2⟩ := rdk_get b e; exact ⟨d, by simpa using h1, h2⟩
theorem li_keys {ρ : AM} {m : Nat} {F : Hp} {a : Addr} {ob : Obj} {kvs : List (Key × D)} {ks : List (Key × V)} (ha : F a = some (.frz ob (.dK ks))) (q : RDk G ρ m F kvs ks) : LI G ρ m F (.fx (kvs.map fun kv => dK kv.1)) (Itk a ob ks) := by
  have hs : ∀ {ρ' : AM} {h' : List O} {F' R' H' : Hp}, Ext ρ m F ρ' h'.length F' → Rel G ρ' h' F' R' H' → H' a = some (.frz ob (.dK ks)) := fun x r => r.fr _ _ (x.sub.get ha (fun _ z => nomatch z))
  have hl : (kvs.map fun kv => dK kv.1).length = ks.length := by rw [List.length_map]; exact q.length
  refine ⟨fun i ρ' h F' R H x r hi => ⟨hs x r, by rw [hl] at hi; exact hi⟩, fun i ρ' h F' R H v H' d x r y hd => ?_, fun ρ' h F' R H x r => ⟨hs x r, by rw [hl]; exact Nat.le_refl _⟩⟩
  obtain ⟨eH, k, w, hk, ev⟩ := y
  subst ev
  refine ⟨eH, ?_⟩
  obtain ⟨d', h1, _⟩ := rdk_get q hk
  rw [List.getElem?_map, h1] at hd
  cases hd
  exact rd_key k
theorem li_vals {ρ : AM} {m : Nat} {F : Hp} {a : Addr} {ob : Obj} {kvs : List (Key × D)} {ks : List (Key × V)} (ha : F a = some (.frz ob (.dK ks))) (q : RDk G ρ m F kvs ks) : LI G ρ m F (.fx (kvs.map (·.2))) (Itd a ob ks) := by
  have hs : ∀ {ρ' : AM} {h' : List O} {F' R' H' : Hp}, Ext ρ m F ρ' h'.length F' → Rel G ρ' h' F' R' H' → H' a = some (.frz ob (.dK ks)) := fun x r => r.fr _ _ (x.sub.get ha (fun _ z => nomatch z))
  have hl : (kvs.map (·.2)).length = ks.length := by rw [List.length_map]; exact q.length
  refine ⟨fun i ρ' h F' R H x r hi => ⟨hs x r, by rw [hl] at hi; exact hi⟩, fun i ρ' h F' R H v H' d x r y hd => ?_, fun ρ' h F' R H x r => ⟨hs x r, by rw [hl]; exact Nat.le_refl _⟩⟩
  obtain ⟨eH, k, hk⟩ := y
  refine ⟨eH, ?_⟩
  obtain ⟨d', h1, h2⟩ := rdk_get q hk
  rw [List.getElem?_map, h1] at hd
  cases hd
  exact h2.mono x
theorem li_items {ρ : AM} {m : Nat} {F : Hp} {a : Addr} {ob : Obj} {kvs : List (Key × D)} {ks : List (Key × V)} (ha : F a = some (.frz ob (.dK ks))) (q : RDk G ρ m F kvs ks) : LI G ρ m F (.pr (kvs.map fun kv => [dK kv.1, kv.2])) (Iti a ob ks) := by
  have hs : ∀ {ρ' : AM} {h' : List O} {F' R' H' : Hp}, Ext ρ m F ρ' h'.length F' → Rel G ρ' h' F' R' H' → H' a = some (.frz ob (.dK ks)) := fun x r => r.fr _ _ (x.sub.get ha (fun _ z => nomatch z))
  have hl : (kvs.map fun kv => [dK kv.1, kv.2]).length = ks.length := by rw [List.length_map]; exact q.length
  refine ⟨fun i ρ' h F' R H x r hi => ⟨hs x r, by rw [hl] at hi; exact hi⟩, fun i ρ' h F' R H v H' d x r y hd => ?_, fun ρ' h F' R H x r => ⟨hs x r, by rw [hl]; exact Nat.le_refl _⟩⟩
  obtain ⟨T, k, w, hk, ev, hT, eH⟩ := y
  obtain ⟨d', h1, h2⟩ := rdk_get q hk
  rw [List.getElem?_map, h1] at hd
  cases hd
  exact ⟨T, _, ev, hT, eH, .cons (rd_key k) (.cons (h2.mono x) .nil)⟩
theorem rng_get (i : Int) : ∀ (n j : Nat), j < n → (rngD i n)[j]? = some (.int (i + j))
  | 0, j, h => by omega
  | n + 1, 0, h => by simp [rngD]
  | n + 1, j + 1, h => by
    simp only [rngD, List.getElem?_cons_succ]
    rw [rng_get (i + 1) n j (by omega)]
    congr 2
    omega
theorem rng_len (i : Int) : ∀ (n : Nat), (rngD i n).length = n
  | 0 => rfl
  | n + 1 => by simp [rngD, rng_len (i + 1) n]
theorem li_rng {ρ : AM} {m : Nat} {F : Hp} (i : Int) (n : Nat) : LI G ρ m F (.fx (rngD i n)) (Itr i n) := by
  refine ⟨fun j ρ' h F' R H e r hi => by rw [rng_len] at hi; exact hi, fun j ρ' h F' R H v H' d e r y hd => ?_, fun ρ' h F' R H e r => by rw [rng_len]; exact Nat.le_refl _⟩
  obtain ⟨eH, ev⟩ := y
  subst ev
  refine ⟨eH, ?_⟩
  have hj : j < n := by
    have := (List.getElem?_eq_some_iff.mp hd).1
    rw [rng_len] at this; exact this
  rw [rng_get i n j hj] at hd
  cases hd
  exact .int _
theorem items_kd {ρ : AM} {h : List O} {F R H : Hp} {d : D} {v : V} {xs : List D} (r : Rel G ρ h F R H) (e : itemsK d = some xs) (q : RD G ρ h.length F d v) :
    ∃ (k : Kd) (vs : List V), v = k.v ∧ RDs G ρ h.length F xs vs ∧ ∀ {ρ' : AM} {h' : List O} {F' R' H' : Hp}, Ext ρ h.length F ρ' h'.length F' → Rel G ρ' h' F' R' H' → k.has G.K H' vs := by
  cases d with
  | tup ys => cases q with | @tup a _ vs t1 q1 => cases e; exact ⟨.t a, vs, rfl, q1, fun x r => (r.fr.tupAt (x.sub.tupAt t1)).sq⟩
  | lst ys => cases q with | @lst a _ vs t1 q1 => cases e; exact ⟨.l a, vs, rfl, q1, fun x r => SqL.of (r.fr _ _ (x.sub.get t1 (fun _ z => nomatch z)))⟩
  | scr ys => cases q with | @scr a _ vs t1 q1 => cases e; exact ⟨.l a, vs, rfl, q1, fun x r => r.fr.sqL (x.sub.sqL t1)⟩
  | str x => cases q; cases e; exact ⟨.s x, _, rfl, rds_chars _, fun _ _ => rfl⟩
  | _ => cases e
theorem num_get : ∀ (xs : List D) (i j : Nat), (numD i xs)[j]? = (xs[j]?).map fun d => [.int ((i + j : Nat) : Int), d]
  | [], i, j => by simp [numD]
  | d :: r, i, 0 => by simp [numD]
  | d :: r, i, j + 1 => by
    simp only [numD, List.getElem?_cons_succ]
    rw [num_get r (i + 1) j]
    have : i + 1 + j = i + (j + 1) := by omega
    rw [this]
theorem num_len : ∀ (xs : List D) (i : Nat), (numD i xs).length = xs.length
  | [], i => rfl
  | d :: r, i => by simp [numD, num_len r (i + 1)]
theorem li_enum {ρ : AM} {m : Nat} {F : Hp} {k : Kd} {xs : List D} {vs : List V} (hs : ∀ {ρ' : AM} {h' : List O} {F' R' H' : Hp}, Ext ρ m F ρ' h'.length F' → Rel G ρ' h' F' R' H' → k.has G.K H' vs) (q : RDs G ρ m F xs vs) : LI G ρ m F (.pr (numD 0 xs)) (IteG G.K k) := by
  refine ⟨fun i ρ' h F' R H x r hi => ⟨vs, hs x r, by rw [num_len, q.length] at hi; exact hi⟩, fun i ρ' h F' R H v H' ds x r y hd => ?_, fun ρ' h F' R H x r => ⟨vs, hs x r, by rw [num_len, q.length]⟩⟩
  obtain ⟨T, w, ev, hT, eH, hw⟩ := y
  rw [num_get] at hd
  obtain ⟨d, hd1, hd2⟩ := Option.map_eq_some_iff.mp hd
  obtain ⟨v', hv, rv⟩ := q.get hd1
  have := hw vs (hs x r)
  rw [hv] at this
  cases this
  subst hd2
  refine ⟨T, _, ev, hT, eH, .cons ?_ (.cons (rv.mono x) .nil)⟩
  rw [Nat.zero_add]
  exact .int _
theorem zip_get : ∀ (xs ys : List D) (j : Nat) (ds : List D), (zipD xs ys)[j]? = some ds → ∃ x y, xs[j]? = some x ∧ ys[j]? = some y ∧ ds = [x, y]
  | [], _, j, ds, e => by simp [zipD] at e
  | _ :: _, [], j, ds, e => by simp [zipD] at e
  | x :: xs, y :: ys, 0, ds, e => by simp [zipD] at e; exact ⟨x, y, rfl, rfl, e.symm⟩
  | x :: xs, y :: ys, j + 1, ds, e => by simp [zipD] at e; simpa using zip_get xs ys j ds e
theorem zip_len : ∀ (xs ys : List D), (zipD xs ys).length = min xs.length ys.length
  | [], _ => by simp [zipD]
  | _ :: _, [] => by simp [zipD]
  | x :: xs, y :: ys => by simp [zipD, zip_len xs ys]
theorem li_zip {ρ : AM} {m : Nat} {F : Hp} {k k2 : Kd} {xs ys : List D} {vs ws : List V} (hs : ∀ {ρ' : AM} {h' : List O} {F' R' H' : Hp}, Ext ρ m F ρ' h'.length F' → Rel G ρ' h' F' R' H' → k.has G.K H' vs) (q : RDs G ρ m F xs vs)
    (hs2 : ∀ {ρ' : AM} {h' : List O} {F' R' H' : Hp}, Ext ρ m F ρ' h'.length F' → Rel G ρ' h' F' R' H' → k2.has G.K H' ws) (q2 : RDs G ρ m F ys ws) : LI G ρ m F (.pr (zipD xs ys)) (ItzG G.K k k2) := by
  have l1 := q.length
  have l2 := q2.length
  refine ⟨fun i ρ' h F' R H x r hi => ?_, fun i ρ' h F' R H v H' ds x r y hd => ?_, fun ρ' h F' R H x r => ⟨vs, ws, hs x r, hs2 x r, by rw [zip_len]; omega, by rw [zip_len]; omega, by rw [zip_len]; omega⟩⟩
  · rw [zip_len] at hi
    exact ⟨vs, ws, hs x r, hs2 x r, by omega, by omega⟩
  · obtain ⟨T, w, w2, ev, hT, eH, hw, hw2⟩ := y
    obtain ⟨d, e, h1, h2, eds⟩ := zip_get xs ys i ds hd
    subst eds
    obtain ⟨v', hv, rv⟩ := q.get h1
    obtain ⟨v2, hv2, rv2⟩ := q2.get h2
    have a1 := hw vs (hs x r)
    have a2 := hw2 ws (hs2 x r)
    rw [hv] at a1
    rw [hv2] at a2
    cases a1
    cases a2
    exact ⟨T, _, ev, hT, eH, .cons (rv.mono x) (.cons (rv2.mono x) .nil)⟩
end
section
variable {X : Cx} {G : GI} {W : WX} {tg e e2 : Expr} {A : Ac} {L : AcL} {p pos tpos apos cpos : Pos} {elts : List Expr} {kk : Nat}
theorem _root_.L2.PI.weakL {X : Cx} {tg e : Expr} {t t' : TI} (h : PI X tg e t) (i : ∀ σ H Q, t' σ H Q → t σ H Q) : PI X tg e t' := ⟨fun pins s σ H Q I q => h.run pins s σ H Q I (i σ H Q q)⟩
theorem lock_dic {pins : List (Addr × Obj)} {σ : L2.St} {H : Hp} {s : Shared} {ρ : AM} {h : List O} {F R : Hp} {kvs : List (Key × D)} {v : V} (I : Inv X pins σ H s) (r : Rel G ρ h F R H) (q : RD G ρ h.length F (.dic kvs) v) :
    ∃ a ob ks F' H', v = .ref a ∧ Inv X pins σ H' s ∧ Rel G ρ h F' R H' ∧ Ext ρ h.length F ρ h.length F' ∧ F' a = some (.frz ob (.dK ks)) ∧ RDk G ρ h.length F' kvs ks := by
  cases q with
  | @dic a _ ks hd rk =>
    rcases hd with hd | ⟨ob, hd⟩
    · obtain ⟨od, I'⟩ := I.lock (r.fr _ _ hd) True.intro
      obtain ⟨r', x⟩ := r.lock hd od
      exact ⟨a, od, ks, _, _, rfl, I', r', x, upd_same, rk.mono x⟩
    · exact ⟨a, ob, ks, F, H, rfl, I, r, Ext.refl _ _ _, hd, rk⟩
theorem pi_valD (hK : X.K = G.K) (he : PE X e (rd G W A)) : PI X tg e (rdI G W (acIt A)) := by
  refine ⟨fun pins s σ H Q I hq => ?_⟩
  have hr : rd G W A σ H fun v H1 => ∃ ρ h F R d src, Rel G ρ h F R H1 ∧ RD G ρ h.length F d v ∧ srcOf h d = some src ∧ ∀ ρ' F' J H', Ext ρ h.length F ρ' h.length F' → Rel G ρ' h F' R H' → LI G ρ' h.length F' src J → Q J H' := by
    obtain ⟨ρ, s, h, F, R, r, sr, wp⟩ := hq
    refine step (L := LD G) r sr wp fun ρ1 h1 F1 d x H1 x1 r1 q1 wp1 => ?_
    cases e1 : srcOf h1 d with
    | none => rw [e1] at wp1; exact wp1.elim
    | some src => rw [e1] at wp1; exact ⟨ρ1, h1, F1, R, d, src, r1, q1, e1, wp1⟩
  refine thn (he.run pins s σ H _ I hr) fun u s1 ⟨v, H1, I1, ru, ρ, h, F, R, d, src, r, q, es, k⟩ => ?_
  have asL : ∀ (a : Addr) (xs : List V), v = .ref a → SqL X.K H1 a xs → Q (Itl X.K a) H1 → wpAny (model X.prog X.w) X.A (pyIter u) (PIE X pins σ tg Q) X.xe s1 := fun a xs ev hq qq => by
    subst ev
    obtain rfl : u = Value.ref a := ru
    obtain ⟨its, rv, p, hz⟩ := I1.list hq
    refine wpAny_pyIter_list p.isList ?_
    exact pi_one (tk := s1.toks) I1 _ (turn_list a _) ⟨_, Heap.get?_push_size _ rfl, rfl, rfl⟩ qq
  cases d with
  | tup ys =>
    cases q with
    | @tup a _ vs t1 q1 =>
      cases es
      obtain rfl : u = Value.ref a := ru
      obtain ⟨its, rv, p, hz⟩ := I1.tuple (by rw [hK]; exact (r.fr.tupAt t1).sq)
      refine wpAny_pyIter_tuple (show s1.heap.IsTuple a its.toArray from p) ?_
      exact pi_one (tk := s1.toks) I1 _ (turn_tuple a _) ⟨_, Heap.get?_push_size _ rfl, rfl, rfl⟩ (k ρ F _ H1 (Ext.refl _ _ _) r (by rw [hK]; exact li_tup t1 q1))
  | lst ys =>
    cases q with
    | @lst a _ vs t1 q1 =>
      cases es
      refine asL a vs rfl (SqL.of (r.fr _ _ t1)) ?_
      rw [hK]
      exact k ρ F _ H1 (Ext.refl _ _ _) r (li_list (fun x r => SqL.of (r.fr _ _ (x.sub.get t1 (fun _ z => nomatch z)))) q1)
  | scr ys =>
    cases q with
    | @scr a _ vs t1 q1 =>
      cases es
      refine asL a vs rfl (by rw [hK]; exact r.fr.sqL t1) ?_
      rw [hK]
      exact k ρ F _ H1 (Ext.refl _ _ _) r (li_list (fun x r => r.fr.sqL (x.sub.sqL t1)) q1)
  | loc n =>
    cases q with
    | loc _ hn =>
      simp only [srcOf] at es
      cases e0 : h[n]? with
      | none => rw [e0] at es; cases es
      | some o =>
        rw [e0] at es
        cases o with
        | lst ys =>
          cases es
          obtain ⟨vs, h1, h2⟩ := r.lv n _ e0
          refine asL _ vs rfl (SqL.of h1) ?_
          rw [hK]
          exact k ρ F _ H1 (Ext.refl _ _ _) r ⟨rfl, hn⟩
        | dic _ => cases es
        | ins _ _ => cases es
        | ind _ _ => cases es
  | str x =>
    cases q
    cases es
    obtain ⟨t, rfl⟩ := ru
    have qq : Q (Its x) H1 := k ρ F _ H1 (Ext.refl _ _ _) r li_str
    cases ha : x.cps.all (· < 128)
    · exact wpAny_pyIter_wide ha (pi_one (tk := s1.toks) I1 _ (turn_str _ x t "str_iterator" (.inr rfl)) ⟨_, Heap.get?_push_size _ rfl, rfl, rfl⟩ qq)
    · exact wpAny_pyIter_ascii ha (pi_one (tk := s1.toks) I1 _ (turn_str _ x t "str_ascii_iterator" (.inl rfl)) ⟨_, Heap.get?_push_size _ rfl, rfl, rfl⟩ qq)
  | dic kvs =>
    cases es
    obtain ⟨a, ob, ks, F', H', ev, I', r', x, hF, rk⟩ := lock_dic I1 r q
    subst ev
    obtain rfl : u = Value.ref a := ru
    obtain ⟨hs, hgd, hx, es, ep, vs, hdt, hsz, kv, hm⟩ := I'.frzK (r'.fr _ _ hF)
    refine iter_keys hs hgd hx hdt (pi_one (tk := s1.toks) I' _ (turn_keys _ hdt) ⟨_, Heap.get?_push_size _ rfl, rfl, ?_⟩ (k ρ F' _ H' x r' (li_keys hF rk)))
    rw [hsz] <;> rfl
  | _ => cases es
variable {B : Ac} {a b : Expr}
theorem pi_rng1D (hg : Gl X "range") (hm : X.mg "range" = none) (ha : PE X a (rd G W A)) (hs : starEach [a] X.env = (false, eval a X.env) :: starEach [] X.env) : PI X tg (.Call (.Name "range" p) [a] [] pos) (rdI G W (acRng1 A)) :=
  (pi_range1 hg hm (pa_cons ha pa_nil hs) hs).weakL fun σ H Q ⟨ρ, s, h, F, R, r, sr, wp⟩ => step (L := LD G) r sr wp fun ρ1 h1 F1 d v H1 x1 r1 q1 wp1 => by
    cases d with
    | int j =>
      cases q1
      simp only at wp1
      split at wp1
      · rename_i hj
        exact ⟨j, rfl, hj.1, hj.2, wp1 ρ1 F1 _ H1 (Ext.refl _ _ _) r1 (li_rng 0 j.toNat)⟩
      · exact wp1.elim
    | _ => exact wp1.elim
theorem pi_rng2D (hg : Gl X "range") (hm : X.mg "range" = none) (ha : PE X a (rd G W A)) (hb : PE X b (rd G W B)) (hs : starEach [a, b] X.env = (false, eval a X.env) :: starEach [b] X.env) (hs2 : starEach [b] X.env = (false, eval b X.env) :: starEach [] X.env) :
    PI X tg (.Call (.Name "range" p) [a, b] [] pos) (rdI G W (acRng2 A B)) :=
  (pi_range2 hg hm (pa_cons ha (pa_cons hb pa_nil hs2) hs) (by rw [hs, hs2]; rfl) hs2).weakL fun σ H Q ⟨ρ, s, h, F, R, r, sr, wp⟩ => step (L := LD G) r sr wp fun ρ1 h1 F1 d v H1 x1 r1 q1 wp1 =>
    step (L := LD G) r1 (sr.mono x1) wp1 fun ρ2 h2 F2 e v2 H2 x2 r2 q2 wp2 => by
    cases d with
    | int i =>
      cases e with
      | int j =>
        cases q1
        cases q2
        simp only at wp2
        split at wp2
        · rename_i hj
          exact ⟨i, j, rfl, hj, wp2 ρ2 F2 _ H2 (Ext.refl _ _ _) r2 (li_rng i (j - i).toNat)⟩
        · exact wp2.elim
      | _ => exact wp2.elim
    | _ => exact wp2.elim
theorem pi_enumD (hK : X.K = G.K) (hg : Gl X "enumerate") (hm : X.mg "enumerate" = none) (ha : PE X a (rd G W A)) (hs : starEach [a] X.env = (false, eval a X.env) :: starEach [] X.env) :
    PI X (.Tuple elts kk tpos) (.Call (.Name "enumerate" p) [a] [] pos) (rdI G W (acEnum A)) :=
  (pi_enumG hg hm (pa_cons ha pa_nil hs) hs).weakL fun σ H Q ⟨ρ, s, h, F, R, r, sr, wp⟩ => step (L := LD G) r sr wp fun ρ1 h1 F1 d v H1 x1 r1 q1 wp1 => by
    cases e : itemsK d with
    | none => rw [e] at wp1; exact wp1.elim
    | some xs =>
      rw [e] at wp1
      obtain ⟨k, vs, ev, q, hk⟩ := items_kd r1 e q1
      subst ev
      refine ⟨k, vs, rfl, by rw [hK]; exact hk (Ext.refl _ _ _) r1, ?_⟩
      rw [hK]
      exact wp1 ρ1 F1 _ H1 (Ext.refl _ _ _) r1 (li_enum hk q)
theorem pi_zipD (hK : X.K = G.K) (hg : Gl X "zip") (hm : X.mg "zip" = none) (ha : PE X a (rd G W A)) (hb : PE X b (rd G W B)) (hs : starEach [a, b] X.env = (false, eval a X.env) :: starEach [b] X.env) (hs2 : starEach [b] X.env = (false, eval b X.env) :: starEach [] X.env) :
    PI X (.Tuple elts kk tpos) (.Call (.Name "zip" p) [a, b] [] pos) (rdI G W (acZip A B)) :=
  (pi_zipG hg hm (pa_cons ha (pa_cons hb pa_nil hs2) hs) hs (by rw [hs2]; rfl)).weakL fun σ H Q ⟨ρ, s, h, F, R, r, sr, wp⟩ => step (L := LD G) r sr wp fun ρ1 h1 F1 d v H1 x1 r1 q1 wp1 =>
    step (L := LD G) r1 (sr.mono x1) wp1 fun ρ2 h2 F2 d2 v2 H2 x2 r2 q2 wp2 => by
    cases e : itemsK d with
    | none => rw [e] at wp2; exact wp2.elim
    | some xs =>
      cases e' : itemsK d2 with
      | none => rw [e, e'] at wp2; exact wp2.elim
      | some ys =>
        rw [e, e'] at wp2
        obtain ⟨k, vs, ev, q, hk⟩ := items_kd r2 e (q1.mono x2)
        obtain ⟨k2, ws, ev2, q', hk2⟩ := items_kd r2 e' q2
        subst ev ev2
        refine ⟨k, k2, vs, ws, rfl, by rw [hK]; exact hk (Ext.refl _ _ _) r2, by rw [hK]; exact hk2 (Ext.refl _ _ _) r2, ?_⟩
        rw [hK]
        exact wp2 ρ2 F2 _ H2 (Ext.refl _ _ _) r2 (li_zip hk q hk2 q')
theorem pe_lockD (he : PE X e (rd G W A)) {src : List (Key × D) → Src} {QJ : Addr → Obj → List (Key × V) → It} (hli : ∀ ρ m F a ob kvs ks, F a = some (.frz ob (.dK ks)) → RDk G ρ m F kvs ks → LI G ρ m F (src kvs) (QJ a ob ks)) {σ : L2.St} {H : Hp} {Q : It → Hp → Prop}
    (hq : rdI G W (acDic src A) σ H Q) :
    ∀ (pins : List (Addr × Obj)) (s : Shared), Inv X pins σ H s → wpAny (model X.prog X.w) X.A (eval e X.env) (EP X pins σ fun v H1 => ∃ d o kvs, v = .ref d ∧ H1 d = some (.frz o (.dK kvs)) ∧ Q (QJ d o kvs) H1) X.xe s := by
  intro pins s I
  have hr : rd G W A σ H fun v H1 => ∃ ρ h F R kvs, Rel G ρ h F R H1 ∧ RD G ρ h.length F (.dic kvs) v ∧ ∀ ρ' F' J H', Ext ρ h.length F ρ' h.length F' → Rel G ρ' h F' R H' → LI G ρ' h.length F' (src kvs) J → Q J H' := by
    obtain ⟨ρ, s, h, F, R, r, sr, wp⟩ := hq
    refine step (L := LD G) r sr wp fun ρ1 h1 F1 d x H1 x1 r1 q1 wp1 => ?_
    cases d with
    | dic kvs => exact ⟨ρ1, h1, F1, R, kvs, r1, q1, wp1⟩
    | _ => exact wp1.elim
  refine thn (he.run pins s σ H _ I hr) fun u s1 ⟨v, H1, I1, ru, ρ, h, F, R, kvs, r, q, k⟩ => ?_
  obtain ⟨a, ob, ks, F', H', ev, I', r', x, hF, rk⟩ := lock_dic I1 r q
  exact ⟨v, H', I', ru, a, ob, ks, ev, r'.fr _ _ hF, k ρ F' _ H' x r' (hli _ _ _ _ _ _ _ hF rk)⟩
theorem PE.at {t : TE} {σ : L2.St} {H : Hp} {Q : VK} (h : ∀ pins s, Inv X pins σ H s → wpAny (model X.prog X.w) X.A (eval e X.env) (EP X pins σ Q) X.xe s) : PE X e (fun σ' H' Q' => σ' = σ ∧ H' = H ∧ Q' = Q) :=
  ⟨fun pins s σ' H' Q' I ⟨e1, e2, e3⟩ => by subst e1 e2 e3; exact h pins s I⟩
theorem pi_valuesD (he : PE X e (rd G W A)) (hbase : attributeBase e "values" X.env (eval e X.env) = eval e X.env) (hline : (apos.endLine == cpos.line) = true) : PI X tg (.Call (.Attribute e "values" apos) [] [] cpos) (rdI G W (acDic valsS A)) :=
  ⟨fun pins s σ H Q I hq => (pi_values (PE.at (t := rd G W A) (pe_lockD he (src := valsS) (QJ := Itd) (fun _ _ _ _ _ _ _ h1 h2 => li_vals h1 h2) hq)) hbase hline).run pins s σ H Q I ⟨rfl, rfl, rfl⟩⟩
theorem pi_keysD (he : PE X e (rd G W A)) (hbase : attributeBase e "keys" X.env (eval e X.env) = eval e X.env) (hline : (apos.endLine == cpos.line) = true) : PI X tg (.Call (.Attribute e "keys" apos) [] [] cpos) (rdI G W (acDic keysS A)) :=
  ⟨fun pins s σ H Q I hq => (pi_keysM (PE.at (t := rd G W A) (pe_lockD he (src := keysS) (QJ := Itk) (fun _ _ _ _ _ _ _ h1 h2 => li_keys h1 h2) hq)) hbase hline).run pins s σ H Q I ⟨rfl, rfl, rfl⟩⟩
theorem pi_itemsD (he : PE X e (rd G W A)) (hbase : attributeBase e "items" X.env (eval e X.env) = eval e X.env) (hline : (apos.endLine == cpos.line) = true) : PI X (.Tuple elts kk tpos) (.Call (.Attribute e "items" apos) [] [] cpos) (rdI G W (acDic itemsS A)) :=
  ⟨fun pins s σ H Q I hq => (pi_items (PE.at (t := rd G W A) (pe_lockD he (src := itemsS) (QJ := Iti) (fun _ _ _ _ _ _ _ h1 h2 => li_items h1 h2) hq)) hbase hline).run pins s σ H Q I ⟨rfl, rfl, rfl⟩⟩
end
end Lo
namespace Lo
open PySem PySem.Spec PyProof.Rows L2
mutual
def lowD (m : Nat) : D → Bool
  | .loc n => decide (n < m)
  | .xn _ _ => false
  | .tup xs => lowDs m xs
  | .lst xs => lowDs m xs
  | .scr xs => lowDs m xs
  | .dic kvs => lowDk m kvs
  | .obj _ fs => lowDs m fs
  | _ => true
def lowDs (m : Nat) : List D → Bool
  | [] => true
  | d :: r => lowD m d && lowDs m r
def lowDk (m : Nat) : List (Key × D) → Bool
  | [] => true
  | (_, d) :: r => lowD m d && lowDk m r
end
def frzD (h : List O) (m : Nat) : Nat → D → Option D
  | 0, _ => none
  | f + 1, .loc n => if n < m then some (.loc n) else match h[n]? with
    | some (.lst xs) => (xs.mapM (frzD h m f)).map .lst
    | some (.dic kvs) => (kvs.mapM fun (kv : Key × D) => (frzD h m f kv.2).map fun d => (kv.1, d)).map .dic
    | some (.ins c fs) => if fs = [] then none else (fs.mapM fun (o : Option D) => match o with | some d => frzD h m f d | none => none).map (.obj c)
    | _ => none
  | f + 1, .tup xs => (xs.mapM (frzD h m f)).map .tup
  | f + 1, .lst xs => (xs.mapM (frzD h m f)).map .lst
  | f + 1, .scr xs => (xs.mapM (frzD h m f)).map .scr
  | f + 1, .dic kvs => (kvs.mapM fun (kv : Key × D) => (frzD h m f kv.2).map fun d => (kv.1, d)).map .dic
  | f + 1, .obj c fs => (fs.mapM (frzD h m f)).map (.obj c)
  | _ + 1, .xn _ _ => none
  | _ + 1, d => some d
def setD (h : List O) (m : Nat) (d : D) : Option D := if lowD m d = true then some d else frzD h m 20 d
def setF (h : List O) (m : Nat) : Option D → Option (Option D)
  | some d => (setD h m d).map some
  | none => some none
def setO (h : List O) (m : Nat) : O → Option O
  | .lst xs => (xs.mapM (setD h m)).map .lst
  | .dic kvs => (kvs.mapM fun (kv : Key × D) => (setD h m kv.2).map fun d => (kv.1, d)).map .dic
  | .ins c fs => (fs.mapM (setF h m)).map (.ins c)
  | .ind c fs => (fs.mapM fun (kv : Str × D) => (setD h m kv.2).map fun d => (kv.1, d)).map (.ind c)
def setH (h : List O) (m : Nat) : Option (List O) := (h.take m).mapM (setO h m)
section
variable {G : GI} {ρ ρ' : AM} {m m' : Nat} {F F' : Hp}
mutual
theorem RD.low (hs : SubW F F') (hρ : ∀ n, n < m' → ρ'.ob n = ρ.ob n) : ∀ {d : D} {v : V}, lowD m' d = true → RD G ρ m F d v → RD G ρ' m' F' d v
  | .non, _, _, h => by cases h; exact .non
  | .bl b, _, _, h => by cases h; exact .bl b
  | .int b, _, _, h => by cases h; exact .int b
  | .str b, _, _, h => by cases h; exact .str b
  | .tup xs, _, l, h => by cases h with | tup a b => exact .tup (hs.tupAt a) (RDs.low hs hρ (by simpa only [lowD] using l) b)
  | .lst xs, _, l, h => by cases h with | lst a b => exact .lst (hs.get a (fun _ z => nomatch z)) (RDs.low hs hρ (by simpa only [lowD] using l) b)
  | .scr xs, _, l, h => by cases h with | scr a b => exact .scr (hs.sqL a) (RDs.low hs hρ (by simpa only [lowD] using l) b)
  | .dic kvs, _, l, h => by cases h with | dic a b => exact .dic (hs.dK a) (RDk.low hs hρ (by simpa only [lowD] using l) b)
  | .obj c fs, _, l, h => by cases h with | obj a a2 b => exact .obj (hs.get a (fun _ z => nomatch z)) (hs.get a2 (fun _ z => nomatch z)) (RDo.low hs hρ (by simpa only [lowD] using l) b)
  | .fn i, _, _, h => by cases h; exact .fn i
  | .cl i, _, _, h => by cases h; exact .cl i
  | .ty i, _, _, h => by cases h; exact .ty i
  | .loc n, _, l, h => by
    have l : n < m' := by simpa [lowD] using l
    cases h with | loc _ hn => rw [← hρ n l]; exact .loc n l
  | .xn c fs, _, l, h => by simp [lowD] at l
theorem RDs.low (hs : SubW F F') (hρ : ∀ n, n < m' → ρ'.ob n = ρ.ob n) : ∀ {d : List D} {v : List V}, lowDs m' d = true → RDs G ρ m F d v → RDs G ρ' m' F' d v
  | [], _, _, h => by cases h; exact .nil
  | d :: ds, _, l, h => by
    have l : lowD m' d = true ∧ lowDs m' ds = true := by simpa [lowDs] using l
    cases h with | cons a b => exact .cons (RD.low hs hρ l.1 a) (RDs.low hs hρ l.2 b)
theorem RDk.low (hs : SubW F F') (hρ : ∀ n, n < m' → ρ'.ob n = ρ.ob n) : ∀ {d : List (Key × D)} {v : List (Key × V)}, lowDk m' d = true → RDk G ρ m F d v → RDk G ρ' m' F' d v
  | [], _, _, h => by cases h; exact .nil
  | (k, d) :: ds, _, l, h => by
    have l : lowD m' d = true ∧ lowDk m' ds = true := by simpa [lowDk] using l
    cases h with | cons a b => exact .cons (RD.low hs hρ l.1 a) (RDk.low hs hρ l.2 b)
theorem RDo.low (hs : SubW F F') (hρ : ∀ n, n < m' → ρ'.ob n = ρ.ob n) : ∀ {d : List D} {v : List (Option V)}, lowDs m' d = true → RDo G ρ m F d v → RDo G ρ' m' F' d v
  | [], _, _, h => by cases h; exact .nil
  | d :: ds, _, l, h => by
    have l : lowD m' d = true ∧ lowDs m' ds = true := by simpa [lowDs] using l
    cases h with | cons a b => exact .cons (RD.low hs hρ l.1 a) (RDo.low hs hρ l.2 b)
end
theorem RDs.mapM {g : D → Option D} (hg : ∀ d d' v, g d = some d' → RD G ρ m F d v → RD G ρ' m' F' d' v) : ∀ {xs ys : List D} {vs : List V}, xs.mapM g = some ys → RDs G ρ m F xs vs → RDs G ρ' m' F' ys vs
  | [], ys, _, e, h => by cases h; simp at e; subst e; exact .nil
  | d :: ds, ys, _, e, h => by
    rw [List.mapM_cons] at e
    cases h with
    | cons a b =>
      cases e1 : g d with
      | none => rw [e1] at e; simp at e
      | some d' =>
        rw [e1] at e
        cases e2 : ds.mapM g with
        | none => rw [e2] at e; simp at e
        | some r => rw [e2] at e; simp at e; subst e; exact .cons (hg _ _ _ e1 a) (RDs.mapM hg e2 b)
theorem RDo.mapM {g : D → Option D} (hg : ∀ d d' v, g d = some d' → RD G ρ m F d v → RD G ρ' m' F' d' v) : ∀ {xs ys : List D} {vs : List (Option V)}, xs.mapM g = some ys → RDo G ρ m F xs vs → RDo G ρ' m' F' ys vs
  | [], ys, _, e, h => by simp at e; subst e; exact .nil
  | d :: ds, ys, _, e, h => by
    rw [List.mapM_cons] at e
    cases h with
    | cons a b =>
      cases e1 : g d with
      | none => rw [e1] at e; simp at e
      | some d' =>
        rw [e1] at e
        cases e2 : ds.mapM g with
        | none => rw [e2] at e; simp at e
        | some r => rw [e2] at e; simp at e; subst e; exact .cons (hg _ _ _ e1 a) (RDo.mapM hg e2 b)
theorem RDk.mapM {g : D → Option D} (hg : ∀ d d' v, g d = some d' → RD G ρ m F d v → RD G ρ' m' F' d' v) : ∀ {xs ys : List (Key × D)} {vs : List (Key × V)}, (xs.mapM fun (kv : Key × D) => (g kv.2).map fun d => (kv.1, d)) = some ys → RDk G ρ m F xs vs → RDk G ρ' m' F' ys vs
  | [], ys, _, e, h => by cases h; simp at e; subst e; exact .nil
  | (k, d) :: ds, ys, _, e, h => by
    rw [List.mapM_cons] at e
    cases h with
    | cons a b =>
      cases e1 : g d with
      | none => rw [e1] at e; simp at e
      | some d' =>
        rw [e1] at e
        cases e2 : (ds.mapM fun (kv : Key × D) => (g kv.2).map fun d => (kv.1, d)) with
        | none => rw [e2] at e; simp at e
        | some r => rw [e2] at e; simp at e; subst e; exact .cons (hg _ _ _ e1 a) (RDk.mapM hg e2 b)
theorem RDf.mapM {g : D → Option D} (hg : ∀ d d' v, g d = some d' → RD G ρ m F d v → RD G ρ' m' F' d' v) : ∀ {xs ys : List (Str × D)} {vs : List (Str × V)}, (xs.mapM fun (kv : Str × D) => (g kv.2).map fun d => (kv.1, d)) = some ys → RDf G ρ m F xs vs → RDf G ρ' m' F' ys vs
  | [], ys, _, e, h => by cases h; simp at e; subst e; exact .nil
  | (k, d) :: ds, ys, _, e, h => by
    rw [List.mapM_cons] at e
    cases h with
    | cons a b =>
      cases e1 : g d with
      | none => rw [e1] at e; simp at e
      | some d' =>
        rw [e1] at e
        cases e2 : (ds.mapM fun (kv : Str × D) => (g kv.2).map fun d => (kv.1, d)) with
        | none => rw [e2] at e; simp at e
        | some r => rw [e2] at e; simp at e; subst e; exact .cons (hg _ _ _ e1 a) (RDf.mapM hg e2 b)
theorem rdq_tail {x : Option D} {fs : List (Option D)} {vs : List (Option V)} (h : RDq G ρ m F (x :: fs) vs) : RDq G ρ m F fs vs.tail := fun i d e => by
  obtain ⟨v, h1, h2⟩ := h (i + 1) d (by simpa using e)
  refine ⟨v, ?_, h2⟩
  cases vs with
  | nil => simp at h1
  | cons a b => simpa using h1
theorem RDq.obj {g : D → Option D} (hg : ∀ d d' v, g d = some d' → RD G ρ m F d v → RD G ρ' m' F' d' v) : ∀ {fs : List (Option D)} {ys : List D} {vs : List (Option V)}, (fs.mapM fun (o : Option D) => match o with | some d => g d | none => none) = some ys → RDq G ρ m F fs vs → RDo G ρ' m' F' ys vs
  | [], ys, vs, e, h => by simp at e; subst e; exact .nil
  | o :: fs, ys, vs, e, h => by
    rw [List.mapM_cons] at e
    cases o with
    | none => simp at e
    | some d =>
      cases e1 : g d with
      | none => simp [e1] at e
      | some d' =>
        simp only [e1] at e
        cases e2 : (fs.mapM fun (o : Option D) => match o with | some d => g d | none => none) with
        | none => rw [e2] at e; simp at e
        | some r =>
          rw [e2] at e
          simp at e
          subst e
          obtain ⟨v, h1, h2⟩ := h 0 d rfl
          cases vs with
          | nil => simp at h1
          | cons a b =>
            simp at h1
            subst h1
            exact .cons (hg _ _ _ e1 h2) (RDq.obj hg e2 (rdq_tail h))
theorem mapM_get {α β : Type} {g : α → Option β} : ∀ {xs : List α} {ys : List β} {i : Nat} {y : β}, xs.mapM g = some ys → ys[i]? = some y → ∃ x, xs[i]? = some x ∧ g x = some y
  | [], ys, i, y, e, h => by simp at e; subst e; simp at h
  | x :: xs, ys, i, y, e, h => by
    rw [List.mapM_cons] at e
    cases e1 : g x with
    | none => simp [e1] at e
    | some z =>
      cases e2 : xs.mapM g with
      | none => simp [e1, e2] at e
      | some r =>
        simp [e1, e2] at e
        subst e
        cases i with
        | zero => simp at h; subst h; exact ⟨x, rfl, e1⟩
        | succ i => simp at h; simpa using mapM_get e2 h
theorem mapM_len {α β : Type} {g : α → Option β} : ∀ {xs : List α} {ys : List β}, xs.mapM g = some ys → ys.length = xs.length
  | [], ys, e => by simp at e; subst e; rfl
  | x :: xs, ys, e => by
    rw [List.mapM_cons] at e
    cases e1 : g x with
    | none => simp [e1] at e
    | some z =>
      cases e2 : xs.mapM g with
      | none => simp [e1, e2] at e
      | some r => simp [e1, e2] at e; subst e; simp [mapM_len e2]
end
section
variable {G : GI} {ρ : AM} {h : List O} {F R H F2 : Hp} {m : Nat}
theorem frz_rd (r : Rel G ρ h F R H) (hF : SubW F F2) (hn : ∀ n, m ≤ n → n < h.length → F2 (ρ.ob n) = H (ρ.ob n)) (hd : ∀ n o, m ≤ n → h[n]? = some o → isIns o = true → F2 (ρ.dx n) = H (ρ.dx n)) :
    ∀ (f : Nat) (d d' : D) (v : V), frzD h m f d = some d' → RD G ρ h.length F d v → RD G ρ m F2 d' v
  | 0, d, d', v, e, q => by simp [frzD] at e
  | f + 1, .non, d', v, e, q => by simp [frzD] at e; subst e; cases q; exact .non
  | f + 1, .bl b, d', v, e, q => by simp [frzD] at e; subst e; cases q; exact .bl b
  | f + 1, .int b, d', v, e, q => by simp [frzD] at e; subst e; cases q; exact .int b
  | f + 1, .str b, d', v, e, q => by simp [frzD] at e; subst e; cases q; exact .str b
  | f + 1, .fn b, d', v, e, q => by simp [frzD] at e; subst e; cases q; exact .fn b
  | f + 1, .cl b, d', v, e, q => by simp [frzD] at e; subst e; cases q; exact .cl b
  | f + 1, .ty b, d', v, e, q => by simp [frzD] at e; subst e; cases q; exact .ty b
  | f + 1, .xn c fs, d', v, e, q => by simp [frzD] at e
  | f + 1, .tup xs, d', v, e, q => by
    simp only [frzD] at e
    obtain ⟨ys, e1, e2⟩ := Option.map_eq_some_iff.mp e
    subst e2
    cases q with | tup a b => exact .tup (hF.tupAt a) (RDs.mapM (frz_rd r hF hn hd f) e1 b)
  | f + 1, .lst xs, d', v, e, q => by
    simp only [frzD] at e
    obtain ⟨ys, e1, e2⟩ := Option.map_eq_some_iff.mp e
    subst e2
    cases q with | lst a b => exact .lst (hF.get a (fun _ z => nomatch z)) (RDs.mapM (frz_rd r hF hn hd f) e1 b)
  | f + 1, .scr xs, d', v, e, q => by
    simp only [frzD] at e
    obtain ⟨ys, e1, e2⟩ := Option.map_eq_some_iff.mp e
    subst e2
    cases q with | scr a b => exact .scr (hF.sqL a) (RDs.mapM (frz_rd r hF hn hd f) e1 b)
  | f + 1, .dic xs, d', v, e, q => by
    simp only [frzD] at e
    obtain ⟨ys, e1, e2⟩ := Option.map_eq_some_iff.mp e
    subst e2
    cases q with | dic a b => exact .dic (hF.dK a) (RDk.mapM (frz_rd r hF hn hd f) e1 b)
  | f + 1, .obj c fs, d', v, e, q => by
    simp only [frzD] at e
    obtain ⟨ys, e1, e2⟩ := Option.map_eq_some_iff.mp e
    subst e2
    cases q with | obj a a2 b => exact .obj (hF.get a (fun _ z => nomatch z)) (hF.get a2 (fun _ z => nomatch z)) (RDo.mapM (frz_rd r hF hn hd f) e1 b)
  | f + 1, .loc n, d', v, e, q => by
    simp only [frzD] at e
    cases q with
    | loc _ hl =>
      split at e
      · rename_i hm
        cases e
        exact .loc n hm
      · rename_i hm
        have hm : m ≤ n := Nat.le_of_not_lt hm
        cases e0 : h[n]? with
        | none => rw [e0] at e; cases e
        | some o =>
          rw [e0] at e
          have lv := r.lv n o e0
          have fn := hn n hm hl
          cases o with
          | lst xs =>
            obtain ⟨vs, h1, h2⟩ := lv
            obtain ⟨ys, e1, e2⟩ := Option.map_eq_some_iff.mp e
            subst e2
            exact .lst (fn.trans h1) (RDs.mapM (frz_rd r hF hn hd f) e1 h2)
          | dic xs =>
            obtain ⟨vs, h1, h2⟩ := lv
            obtain ⟨ys, e1, e2⟩ := Option.map_eq_some_iff.mp e
            subst e2
            exact .dic (.inl (fn.trans h1)) (RDk.mapM (frz_rd r hF hn hd f) e1 h2)
          | ins c fs =>
            obtain ⟨vs, h1, h2, _⟩ := lv
            simp only at e
            split at e
            · cases e
            · rename_i hne
              obtain ⟨ys, e1, e2⟩ := Option.map_eq_some_iff.mp e
              subst e2
              have q := RDq.obj (frz_rd r hF hn hd f) e1 h2
              rcases h1 with ⟨_, z⟩ | ⟨z1, z2⟩
              · subst z
                cases q with
                | nil => exact absurd (List.eq_nil_of_length_eq_zero (mapM_len e1).symm) hne
              · exact .obj (fn.trans z1) ((hd n _ hm e0 rfl).trans z2) q
          | ind c fs => cases e
end
end Lo
namespace Lo
open PySem PySem.Spec PyProof.Rows L2
open Classical in
noncomputable def newF (T : List (Addr × Str)) (ρ : AM) (h : List O) (m : Nat) (R H : Hp) : Hp := fun a => if (R a = none ∧ ∀ t ∈ T, t.1 ≠ a) ∧ ∀ n, n < m → a ≠ ρ.ob n ∧ ∀ o, h[n]? = some o → isIns o = true → a ≠ ρ.dx n then H a else none
section
variable {G : GI} {ρ : AM} {h : List O} {F R H : Hp} {m : Nat}
theorem newF_yes {a : Addr} (h1 : R a = none ∧ ∀ t ∈ G.tabs, t.1 ≠ a) (h2 : ∀ n, n < m → a ≠ ρ.ob n ∧ ∀ o, h[n]? = some o → isIns o = true → a ≠ ρ.dx n) : newF G.tabs ρ h m R H a = H a := if_pos ⟨h1, h2⟩
theorem newF_some {a : Addr} {o : HO} (e : newF G.tabs ρ h m R H a = some o) : (R a = none ∧ ∀ t ∈ G.tabs, t.1 ≠ a) ∧ (∀ n, n < m → a ≠ ρ.ob n ∧ ∀ o, h[n]? = some o → isIns o = true → a ≠ ρ.dx n) ∧ H a = some o := by
  unfold newF at e
  split at e
  · rename_i c; exact ⟨c.1, c.2, e⟩
  · cases e
theorem Rel.ins_at (r : Rel G ρ h F R H) {n : Nat} {o : O} (e : h[n]? = some o) (hi : isIns o = true) : F (ρ.dx n) = none ∧ R (ρ.dx n) = none ∧ H (ρ.dx n) ≠ none ∧ ∀ k, k < h.length → ρ.ob k ≠ ρ.dx n := by
  have z := r.lv n o e
  cases o with
  | ins c fs => obtain ⟨vs, h1, h2, h3, h4, h5, h7⟩ := z; exact ⟨h3, h4, h5, h7⟩
  | _ => cases hi
theorem setD_rd {F2 : Hp} {d d' : D} {v : V} (r : Rel G ρ h F R H) (hF : SubW F F2) (hn : ∀ n, m ≤ n → n < h.length → F2 (ρ.ob n) = H (ρ.ob n)) (hd : ∀ n o, m ≤ n → h[n]? = some o → isIns o = true → F2 (ρ.dx n) = H (ρ.dx n))
    (e : setD h m d = some d') (q : RD G ρ h.length F d v) : RD G ρ m F2 d' v := by
  unfold setD at e
  split at e
  · rename_i l
    cases e
    exact q.low hF (fun _ _ => rfl) l
  · exact frz_rd r hF hn hd 20 d d' v e q
theorem Rel.settle {h2 : List O} (r : Rel G ρ h F R H) (hm : m ≤ h.length) (e : setH h m = some h2) :
    Rel G ρ h2 (newF G.tabs ρ h m R H) R H ∧ SubW F (newF G.tabs ρ h m R H) ∧ h2.length = m ∧ ∀ d d' v, setD h m d = some d' → RD G ρ h.length F d v → RD G ρ m (newF G.tabs ρ h m R H) d' v := by
  have hF : SubW F (newF G.tabs ρ h m R H) := fun a o q => .inl (by
    have c2 : ∀ n, n < m → a ≠ ρ.ob n ∧ ∀ o, h[n]? = some o → isIns o = true → a ≠ ρ.dx n := fun n hn => by
      refine ⟨fun z => ?_, fun x e hi z => ?_⟩
      · have := r.lF n (Nat.lt_of_lt_of_le hn hm)
        rw [← z, q] at this; cases this
      · have := (r.ins_at e hi).1
        rw [← z, q] at this; cases this
    rw [newF_yes ⟨r.fR a o q, fun t ht z => by have := r.tb.nF t ht; rw [z, q] at this; cases this⟩ c2]
    exact r.fr a o q)
  have hn : ∀ n, m ≤ n → n < h.length → newF G.tabs ρ h m R H (ρ.ob n) = H (ρ.ob n) := fun n h1 h2 => newF_yes ⟨r.lR n h2, fun t ht z => (r.tb.nL t ht n _ (List.getElem?_eq_getElem h2)).1 z.symm⟩ fun k hk =>
    ⟨fun z => by have := r.inj n k h2 (Nat.lt_of_lt_of_le hk hm) z; omega, fun x e hi z => (r.ins_at e hi).2.2.2 n h2 z⟩
  have hd : ∀ n o, m ≤ n → h[n]? = some o → isIns o = true → newF G.tabs ρ h m R H (ρ.dx n) = H (ρ.dx n) := fun n o h1 e hi => newF_yes ⟨(r.ins_at e hi).2.1, fun t ht z => (r.tb.nL t ht n o e).2 hi z.symm⟩ fun k hk =>
    ⟨fun z => (r.ins_at e hi).2.2.2 k (Nat.lt_of_lt_of_le hk hm) z.symm, fun x ex hx z => by have := r.dinj n k o x e ex hi hx z; omega⟩
  have set := fun d d' v => setD_rd (d := d) (d' := d') (v := v) r hF hn hd
  have hl : h2.length = m := by
    rw [mapM_len e, List.length_take]
    omega
  have old : ∀ n o, h2[n]? = some o → ∃ x, n < m ∧ h[n]? = some x ∧ setO h m x = some o := fun n o q => by
    obtain ⟨x, h1, h2⟩ := mapM_get e q
    have hnm : n < m := by rw [← hl]; exact (List.getElem?_eq_some_iff.mp q).1
    rw [List.getElem?_take, if_pos hnm] at h1
    exact ⟨x, hnm, h1, h2⟩
  have insE : ∀ x o, setO h m x = some o → isIns o = isIns x := fun x o q => by
    cases x <;> simp only [setO] at q <;> (obtain ⟨_, _, q⟩ := Option.map_eq_some_iff.mp q; subst q; rfl)
  refine ⟨⟨fun a o q => (newF_some q).2.2, r.rs, fun a o q => (newF_some q).1.1, fun n o q => ?_, fun i j hi hj => r.inj i j (by omega) (by omega), fun i j x y qi qj hx hy => ?_, fun n hn => ?_, fun n hn => r.lR n (by omega), fun n hn => r.lH n (by omega), r.tb.step hF (fun _ _ => rfl) (fun t ht => ?_) r.tb.nR fun t ht n o q => ?_⟩, hF, hl, set⟩
  · obtain ⟨x, hnm, ex, eo⟩ := old n o q
    have lv := r.lv n x ex
    rw [hl]
    cases x with
    | lst xs =>
      simp only [setO] at eo
      obtain ⟨ys, e1, e2⟩ := Option.map_eq_some_iff.mp eo
      subst e2
      obtain ⟨vs, h1, h2⟩ := lv
      exact ⟨vs, h1, RDs.mapM set e1 h2⟩
    | dic xs =>
      simp only [setO] at eo
      obtain ⟨ys, e1, e2⟩ := Option.map_eq_some_iff.mp eo
      subst e2
      obtain ⟨vs, h1, h2⟩ := lv
      exact ⟨vs, h1, RDk.mapM set e1 h2⟩
    | ind c xs =>
      simp only [setO] at eo
      obtain ⟨ys, e1, e2⟩ := Option.map_eq_some_iff.mp eo
      subst e2
      obtain ⟨dx, vs, h1, h2⟩ := lv
      exact ⟨dx, vs, h1, RDf.mapM set e1 h2⟩
    | ins c xs =>
      simp only [setO] at eo
      obtain ⟨ys, e1, e2⟩ := Option.map_eq_some_iff.mp eo
      subst e2
      obtain ⟨vs, h1, h2, h3, h4, h5, h7⟩ := lv
      refine ⟨vs, h1, fun i d q => ?_, ?_, h4, h5, fun k hk => h7 k (by omega)⟩
      · obtain ⟨z, ez, eg⟩ := mapM_get e1 q
        cases z with
        | none => simp [setF] at eg
        | some d0 =>
          simp only [setF] at eg
          obtain ⟨d1, g1, g2⟩ := Option.map_eq_some_iff.mp eg
          cases g2
          obtain ⟨v, v1, v2⟩ := h2 i d0 ez
          exact ⟨v, v1, set _ _ _ g1 v2⟩
      · cases z : newF G.tabs ρ h m R H (ρ.dx n) with
        | none => rfl
        | some o => exact absurd rfl (((newF_some z).2.1 n hnm).2 _ ex rfl)
  · obtain ⟨x', hi', ex, eo⟩ := old i x qi
    obtain ⟨y', hj', ey, eo'⟩ := old j y qj
    exact r.dinj i j x' y' ex ey ((insE _ _ eo).symm.trans hx) ((insE _ _ eo').symm.trans hy)
  · cases z : newF G.tabs ρ h m R H (ρ.ob n) with
    | none => rfl
    | some o => exact absurd rfl ((newF_some z).2.1 n (by omega)).1
  · cases z : newF G.tabs ρ h m R H t.1 with
    | none => rfl
    | some o => exact absurd rfl ((newF_some z).1.2 t ht)
  · obtain ⟨x, hnm, ex, eo⟩ := old n o q
    exact ⟨(r.tb.nL t ht n x ex).1, fun hi => (r.tb.nL t ht n x ex).2 ((insE _ _ eo).symm.trans hi)⟩
open Classical in
noncomputable def restH (T : List (Addr × Str)) (F H : Hp) : Hp := fun a => if F a = none ∧ ∀ t ∈ T, t.1 ≠ a then H a else none
theorem Rel.pure (r : Rel G ρ h F R H) : Rel G ρ [] F (restH G.tabs F H) H := by
  refine ⟨r.fr, fun a o q => ?_, fun a o q => ?_, fun n o q => by simp at q, fun i j hi => by simp at hi, fun i j x y qi => by simp at qi, fun n hn => by simp at hn, fun n hn => by simp at hn, fun n hn => by simp at hn, r.tb.step (SubW.refl _) (fun _ _ => rfl) r.tb.nF (fun t ht => if_neg fun z => z.2 t ht rfl) fun t ht n o q => by simp at q⟩
  · unfold restH at q
    split at q
    · exact q
    · cases q
  · unfold restH
    rw [if_neg (by rw [q]; exact fun z => nomatch z.1)]
theorem restH_yes {a : Addr} (e : F a = none) (e2 : ∀ t ∈ G.tabs, t.1 ≠ a) : restH G.tabs F H a = H a := if_pos ⟨e, e2⟩
theorem Rel.unpure {ρ1 : AM} {F1 H1 : Hp} (r : Rel G ρ h F R H) (r1 : Rel G ρ1 [] F1 (restH G.tabs F H) H1) (hs : SubW F F1) : Rel G ρ h F1 R H1 ∧ Ext ρ h.length F ρ h.length F1 := by
  have x : Ext ρ h.length F ρ h.length F1 := ⟨Nat.le_refl _, fun _ _ => rfl, fun _ _ => rfl, hs⟩
  have kp : ∀ a, F a = none → (∀ t ∈ G.tabs, t.1 ≠ a) → H a ≠ none → H1 a = H a ∧ F1 a = none := fun a h1 ht h2 => by
    cases e : H a with
    | none => exact absurd e h2
    | some o =>
      have z : restH G.tabs F H a = some o := by rw [restH_yes h1 ht]; exact e
      refine ⟨r1.rs a o z, ?_⟩
      cases e1 : F1 a with
      | none => rfl
      | some o' => have := r1.fR a o' e1; rw [z] at this; cases this
  have rT : ∀ a o, R a = some o → ∀ t ∈ G.tabs, t.1 ≠ a := fun a o q t ht z => by have := r.tb.nR t ht; rw [z, q] at this; cases this
  have lT : ∀ n, n < h.length → ∀ t ∈ G.tabs, t.1 ≠ ρ.ob n := fun n hn t ht z => (r.tb.nL t ht n _ (List.getElem?_eq_getElem hn)).1 z.symm
  have rF : ∀ a o, R a = some o → F a = none := fun a o q => by
    cases e : F a with
    | none => rfl
    | some o' => have := r.fR a o' e; rw [q] at this; cases this
  have rH : ∀ a o, R a = some o → H a ≠ none := fun a o q z => by have := r.rs a o q; rw [z] at this; cases this
  refine ⟨⟨r1.fr, fun a o q => (kp a (rF a o q) (rT a o q) (rH a o q)).1.trans (r.rs a o q), fun a o q => ?_, fun n o q => ?_, r.inj, r.dinj, fun n hn => (kp _ (r.lF n hn) (lT n hn) (r.lH n hn)).2, r.lR, fun n hn => by rw [(kp _ (r.lF n hn) (lT n hn) (r.lH n hn)).1]; exact r.lH n hn, ⟨r1.tb.at_, r1.tb.nF, r.tb.nR, r.tb.nL⟩⟩, x⟩
  · cases e : R a with
    | none => rfl
    | some o' => have := (kp a (rF a o' e) (rT a o' e) (rH a o' e)).2; rw [q] at this; cases this
  · have hn : n < h.length := (List.getElem?_eq_some_iff.mp q).1
    have k1 := kp _ (r.lF n hn) (lT n hn) (r.lH n hn)
    have lv := r.lv n o q
    cases o with
    | lst xs =>
      obtain ⟨vs, h1, h2⟩ := lv
      exact ⟨vs, k1.1.trans h1, h2.mono x⟩
    | dic xs =>
      obtain ⟨vs, h1, h2⟩ := lv
      exact ⟨vs, k1.1.trans h1, h2.mono x⟩
    | ind c xs =>
      obtain ⟨dx, vs, h1, h2⟩ := lv
      exact ⟨dx, vs, k1.1.trans h1, h2.mono x⟩
    | ins c xs =>
      obtain ⟨vs, h1, h2, h3, h4, h5, h7⟩ := lv
      have k2 := kp _ h3 (fun t ht z => (r.tb.nL t ht n _ q).2 rfl z.symm) h5
      exact ⟨vs, slt_of h1 k1.1 (fun q => k2.1.trans q), h2.mono x, k2.2, h4, by rw [k2.1]; exact h5, h7⟩
end
abbrev FnD := List D → List O → Res D
def setR (m : Nat) (hb : Option (List O)) : Res D → Res D
  | .ok d h' => match setD h' m d, setH h' m with
    | some d', some h2 => .ok d' (hb.getD h2)
    | _, _ => .no
  | .ex c fs h' => match (fs.mapM fun (kv : Str × D) => (setD h' m kv.2).map fun d => (kv.1, d)), setH h' m with
    | some fs', some h2 => .ex c fs' (hb.getD h2)
    | _, _ => .no
  | .no => .no
def callM (f : FnD) (ds : List D) (h : List O) : Res D := if lowDs 0 ds = true then setR 0 (some h) (f ds []) else setR h.length none (f ds h)
def spOf (G : GI) (f : FnD) (n : Nat) : Sp := fun vs H Q E => ∃ ρ h F R ds, Rel G ρ h F R H ∧ RDs G ρ h.length F ds vs ∧ ds.length = n ∧ Wp G (LD G) (fun c d _ H => E c d H) R ρ h.length F (f ds h) [] Q
section
variable {G : GI} {f : FnD}
theorem rx_map {ρ : AM} {m m' : Nat} {F F' : Hp} {ρ' : AM} {g : D → Option D} (hg : ∀ d d' v, g d = some d' → RD G ρ m F d v → RD G ρ' m' F' d' v) (hs : SubW F F') {c : Nat} {fs fs' : List (Str × D)} {cls : Value} {dd : Option Addr}
    (e : (fs.mapM fun (kv : Str × D) => (g kv.2).map fun d => (kv.1, d)) = some fs') (q : RX G ρ m F c fs cls dd) : RX G ρ' m' F' c fs' cls dd := by
  obtain ⟨h1, h2⟩ := q
  refine ⟨h1, ?_⟩
  have el := mapM_len e
  cases fs with
  | nil =>
    have : fs' = [] := List.eq_nil_of_length_eq_zero el
    subst this
    exact h2
  | cons a b =>
    cases fs' with
    | nil => simp at el
    | cons a' b' =>
      obtain ⟨p, vs, h3, h4, h5⟩ := h2
      exact ⟨p, vs, h3, hs.get h4 (fun _ z => nomatch z), RDf.mapM hg e h5⟩
theorem call_of {ρ : AM} {h : List O} {F R H : Hp} {ds : List D} {vs : List V} {Q : VK} {E : XK} {n : Nat} (r : Rel G ρ h F R H) (q : RDs G ρ h.length F ds vs) (hl : ds.length = n) (wp : Wp G (LD G) (fun c d _ H => E c d H) R ρ h.length F (callM f ds h) [] Q) : spOf G f n vs H Q E := by
  unfold callM at wp
  split at wp
  · rename_i lf
    refine ⟨ρ, [], F, restH G.tabs F H, ds, r.pure, q.low (SubW.refl _) (fun _ hn => absurd hn (Nat.not_lt_zero _)) lf, hl, ?_⟩
    cases e : f ds [] with
    | no => rw [e] at wp; exact wp.elim
    | ok d h' =>
      rw [e] at wp
      simp only [setR] at wp
      cases e1 : setD h' 0 d with
      | none => rw [e1] at wp; exact wp.elim
      | some d' =>
        cases e2 : setH h' 0 with
        | none => rw [e1, e2] at wp; exact wp.elim
        | some h2 =>
          rw [e1, e2] at wp
          simp only [Option.getD] at wp
          intro ρ1 F1 v H1 x1 r1 q1
          obtain ⟨r2, s2, l2, k2⟩ := r1.settle (Nat.zero_le _) e2
          have : h2 = [] := List.eq_nil_of_length_eq_zero l2
          subst this
          obtain ⟨r3, x3⟩ := r.unpure r2 (x1.sub.trans s2)
          exact wp ρ _ v H1 x3 r3 ((k2 d d' v e1 q1).mono ⟨Nat.zero_le _, fun n hn => absurd hn (Nat.not_lt_zero _), fun n hn => absurd hn (Nat.not_lt_zero _), SubW.refl _⟩)
    | ex c fs h' =>
      rw [e] at wp
      simp only [setR] at wp
      cases e1 : (fs.mapM fun (kv : Str × D) => (setD h' 0 kv.2).map fun d => (kv.1, d)) with
      | none => rw [e1] at wp; exact wp.elim
      | some fs' =>
        cases e2 : setH h' 0 with
        | none => rw [e1, e2] at wp; exact wp.elim
        | some h2 =>
          rw [e1, e2] at wp
          simp only [Option.getD] at wp
          intro ρ1 F1 cls dd H1 x1 r1 q1
          obtain ⟨r2, s2, l2, k2⟩ := r1.settle (Nat.zero_le _) e2
          have : h2 = [] := List.eq_nil_of_length_eq_zero l2
          subst this
          obtain ⟨r3, x3⟩ := r.unpure r2 (x1.sub.trans s2)
          exact wp ρ _ cls dd H1 x3 r3 (rx_map (fun d d' v e q => (k2 d d' v e q).mono ⟨Nat.zero_le _, fun n hn => absurd hn (Nat.not_lt_zero _), fun n hn => absurd hn (Nat.not_lt_zero _), SubW.refl _⟩) s2 e1 q1)
  · refine ⟨ρ, h, F, R, ds, r, q, hl, ?_⟩
    cases e : f ds h with
    | no => rw [e] at wp; exact wp.elim
    | ok d h' =>
      rw [e] at wp
      simp only [setR] at wp
      cases e1 : setD h' h.length d with
      | none => rw [e1] at wp; exact wp.elim
      | some d' =>
        cases e2 : setH h' h.length with
        | none => rw [e1, e2] at wp; exact wp.elim
        | some h2 =>
          rw [e1, e2] at wp
          simp only [Option.getD] at wp
          intro ρ1 F1 v H1 x1 r1 q1
          obtain ⟨r2, s2, l2, k2⟩ := r1.settle x1.le e2
          have z := k2 d d' v e1 q1
          rw [← l2] at z
          exact wp ρ1 _ v H1 ⟨by rw [l2]; exact Nat.le_refl _, x1.same, x1.samd, x1.sub.trans s2⟩ r2 (by rw [l2] at z ⊢; exact z)
    | ex c fs h' =>
      rw [e] at wp
      simp only [setR] at wp
      cases e1 : (fs.mapM fun (kv : Str × D) => (setD h' h.length kv.2).map fun d => (kv.1, d)) with
      | none => rw [e1] at wp; exact wp.elim
      | some fs' =>
        cases e2 : setH h' h.length with
        | none => rw [e1, e2] at wp; exact wp.elim
        | some h2 =>
          rw [e1, e2] at wp
          simp only [Option.getD] at wp
          intro ρ1 F1 cls dd H1 x1 r1 q1
          obtain ⟨r2, s2, l2, k2⟩ := r1.settle x1.le e2
          exact wp ρ1 _ cls dd H1 ⟨by rw [l2]; exact Nat.le_refl _, x1.same, x1.samd, x1.sub.trans s2⟩ r2 (by rw [l2]; exact rx_map k2 s2 e1 q1)
theorem raw_of {ρ : AM} {h : List O} {F R H : Hp} {ds : List D} {vs : List V} {Q : VK} {E : XK} {n : Nat} (r : Rel G ρ h F R H) (q : RDs G ρ h.length F ds vs) (hl : ds.length = n) (wp : Wp G (LD G) (fun c d _ H => E c d H) R ρ h.length F (f ds h) [] Q) : spOf G f n vs H Q E :=
  ⟨ρ, h, F, R, ds, r, q, hl, wp⟩
end
end Lo
namespace Lo
open PySem PySem.Spec PyProof.Rows L2
def clsOf (h : List O) : D → Option Nat
  | .obj c _ => some c
  | .loc n => match h[n]? with
    | some (.ins c _) => some c
    | some (.ind c _) => some c
    | _ => none
  | _ => none
def sltB (h : List O) : D → Bool
  | .obj _ _ => true
  | .loc n => match h[n]? with
    | some (.ins _ _) => true
    | _ => false
  | _ => false
inductive AK where
  | slot (i : Nat)
  | fld
  | prop (g : FnD)
def slotD (h : List O) (i : Nat) : D → Option D
  | .obj _ fs => fs[i]?
  | .loc n => match h[n]? with
    | some (.ins _ fs) => match fs[i]? with
      | some (some d) => some d
      | _ => none
    | _ => none
  | _ => none
def fldD (h : List O) (f : Str) : D → Option D
  | .loc n => match h[n]? with
    | some (.ind _ fs) => fs.lookup f
    | _ => none
  | _ => none
def Res.noEx {α : Type} : Res α → Res α
  | .ex _ _ _ => .no
  | r => r
abbrev ATab := Nat → Option AK
def Res.ofD (h : List O) : Option D → Res D
  | some d => .ok d h
  | none => .no
def acAttr (T : ATab) (f : Str) (A : Ac) : Ac := fun s h => (A s h).bind fun d h1 => match clsOf h1 d with
  | none => .no
  | some c => match T c with
    | some (.slot i) => Res.ofD h1 (slotD h1 i d)
    | some .fld => Res.ofD h1 (fldD h1 f d)
    | some (.prop g) => if sltB h1 d = true then (callM g [d] h1).noEx else .no
    | none => .no
inductive AOk (X : Cx) (G : GI) (c : Nat) (f : Str) : AK → Prop
  | slot {i : Nat} {p : Addr} : SlX.SCls X.K (G.clA c) → SlX.Slot1 X.K (G.clA c) f p i → AOk X G c f (.slot i)
  | fld : Cls X.K (G.clA c) → NoAttr X.K (G.clA c) f → AOk X G c f .fld
  | prop {g : FnD} {p ga : Addr} {n : Nat} : SlX.SCls X.K (G.clA c) → PySem.W.findIn X.K (.ref (G.clA c)) f = some (some (.ref p)) → PySem.W.specialIn X.K (.ref p) "__get__" = some (some (.builtin "property.__get__")) →
      PySem.W.takesIn X.K (.ref p) = some true → (∃ rest, PySem.W.recIn X.K p "property" = some (.ref ga :: rest)) → FnR X.prog X.w X.K X.mg X.base (CX X.prog X.w) n ga (spOf G g 1) → Room (n + 1) X.A → AOk X G c f (.prop g)
theorem RDf.lookup {G : GI} {ρ : AM} {m : Nat} {F : Hp} {f : Str} {fs : List (Str × D)} {vs : List (Str × V)} {d' : D} (h : RDf G ρ m F fs vs) (e : fs.lookup f = some d') : ∃ w, vs.lookup f = some w ∧ RD G ρ m F d' w := by
  induction h with
  | nil => cases e
  | @cons k d v ds vs a b ih =>
    rw [List.lookup_cons] at e ⊢
    cases hk : f == k with
    | true => rw [hk] at e; cases e; exact ⟨v, rfl, a⟩
    | false => rw [hk] at e; exact ih e
def putFD (f : Str) (d : D) : List (Str × D) → List (Str × D)
  | [] => [(f, d)]
  | (g, x) :: r => if g = f then (g, d) :: r else (g, x) :: putFD f d r
theorem RDf.put {G : GI} {ρ : AM} {m : Nat} {F : Hp} {f : Str} {fs : List (Str × D)} {vs : List (Str × V)} {d : D} {v : V} (h : RDf G ρ m F fs vs) (q : RD G ρ m F d v) : RDf G ρ m F (putFD f d fs) (putF f v vs) := by
  induction h with
  | nil => exact .cons q .nil
  | @cons k d' v' ds vs a b ih =>
    unfold putFD putF
    split
    · exact .cons q b
    · exact .cons a ih
theorem RDf.length {G : GI} {ρ : AM} {m : Nat} {F : Hp} {fs : List (Str × D)} {vs : List (Str × V)} (h : RDf G ρ m F fs vs) : fs.length = vs.length := by
  induction h with
  | nil => rfl
  | cons _ _ ih => simp [ih]
def putSD (i : Nat) (d : D) (fs : List (Option D)) : List (Option D) := (fs ++ List.replicate (i + 1 - fs.length) Option.none).set i (some d)
theorem putSD_get (i j : Nat) (d x : D) (fs : List (Option D)) (h : (putSD i d fs)[j]? = some (some x)) : (j = i ∧ x = d) ∨ (j ≠ i ∧ fs[j]? = some (some x)) := by
  unfold putSD at h
  by_cases hj : j = i
  · subst hj
    have hl : j < (fs ++ List.replicate (j + 1 - fs.length) (Option.none : Option D)).length := by simp; omega
    rw [List.getElem?_set_self hl] at h
    cases h
    exact .inl ⟨rfl, rfl⟩
  · rw [List.getElem?_set_ne (Ne.symm hj)] at h
    refine .inr ⟨hj, ?_⟩
    rw [List.getElem?_append] at h
    split at h
    · exact h
    · rw [List.getElem?_replicate] at h
      split at h <;> cases h
theorem RDq.put {G : GI} {ρ : AM} {m : Nat} {F : Hp} {fs : List (Option D)} {vs : List (Option V)} {d : D} {v : V} (h : RDq G ρ m F fs vs) (q : RD G ρ m F d v) (i : Nat) : RDq G ρ m F (putSD i d fs) (SlX.putS i v vs) := fun j x e => by
  rcases putSD_get i j d x fs e with ⟨e1, e2⟩ | ⟨hj, e1⟩
  · subst e1 e2
    exact ⟨v, SlX.putS_get _ _ _, q⟩
  · obtain ⟨w, h1, h2⟩ := h j x e1
    exact ⟨w, (SlX.putS_ne hj).mpr h1, h2⟩
section
variable {X : Cx} {G : GI} {W : WX} {e : Expr} {f : Str} {pos : Pos} {A : Ac} {T : ATab}
theorem slt_rd {ρ : AM} {h : List O} {F R H : Hp} {d : D} {v : V} {c : Nat} (r : Rel G ρ h F R H) (q : RD G ρ h.length F d v) (e : clsOf h d = some c) (hs : ∀ n fs, d = .loc n → h[n]? ≠ some (.ind c fs)) :
    ∃ a dx vs, v = .ref a ∧ SlX.Slt H a (G.clA c) dx vs ∧ ∀ i d', slotD h i d = some d' → ∃ w, vs[i]? = some (some w) ∧ RD G ρ h.length F d' w := by
  cases d with
  | obj c' fs =>
    cases e
    cases q with
    | @obj a dx _ _ vs h1 h2 h3 =>
      refine ⟨a, dx, vs, rfl, .inr ⟨r.fr _ _ h1, r.fr _ _ h2⟩, fun i d' hd => ?_⟩
      simp only [slotD] at hd
      clear h1 h2 hs
      induction fs generalizing i vs with
      | nil => simp at hd
      | cons x xs ih =>
        cases h3 with
        | cons a b =>
          cases i with
          | zero => simp at hd; subst hd; exact ⟨_, rfl, a⟩
          | succ i => simp at hd; simpa using ih b i hd
  | loc n =>
    simp only [clsOf] at e
    cases q with
    | loc _ hn =>
      cases e0 : h[n]? with
      | none => rw [e0] at e; cases e
      | some o =>
        rw [e0] at e
        cases o with
        | ins c' fs =>
          cases e
          obtain ⟨vs, h1, h2, _⟩ := r.lv n _ e0
          refine ⟨_, _, vs, rfl, h1, fun i d' hd => ?_⟩
          simp only [slotD, e0] at hd
          cases e1 : fs[i]? with
          | none => rw [e1] at hd; cases hd
          | some x =>
            rw [e1] at hd
            cases x with
            | none => cases hd
            | some d'' => cases hd; exact h2 i d' e1
        | ind c' fs => cases e; exact absurd e0 (hs n fs rfl)
        | lst _ => cases e
        | dic _ => cases e
  | _ => cases e
theorem pe_attrD (hK : X.K = G.K) (hT : ∀ c k, T c = some k → AOk X G c f k) (he : PE X e (rd G W A)) (hb : attributeBase e f X.env (eval e X.env) = eval e X.env) : PE X (.Attribute e f pos) (rd G W (acAttr T f A)) := by
  refine ⟨fun pins s σ H Q I hq => ?_⟩
  have hr : rd G W A σ H fun v H1 => ∃ ρ h F R d, Rel G ρ h F R H1 ∧ RD G ρ h.length F d v ∧ Wp G (LD G) W R ρ h.length F (match clsOf h d with
      | none => Res.no
      | some c => match T c with
        | some (.slot i) => Res.ofD h (slotD h i d)
        | some .fld => Res.ofD h (fldD h f d)
        | some (.prop g) => if sltB h d = true then (callM g [d] h).noEx else .no
        | none => .no) σ Q := by
    obtain ⟨ρ, s, h, F, R, r, sr, wp⟩ := hq
    exact step (L := LD G) r sr wp fun ρ1 h1 F1 d x H1 x1 r1 q1 wp1 => ⟨ρ1, h1, F1, R, d, r1, q1, wp1⟩
  refine attr_of hb (thn (he.run pins s σ H _ I hr) fun u s1 ⟨v, H1, I1, ru, ρ, h, F, R, d, r, q, wp⟩ => ?_)
  cases ec : clsOf h d with
  | none => rw [ec] at wp; exact wp.elim
  | some c =>
    rw [ec] at wp
    simp only at wp
    cases ek : T c with
    | none => rw [ek] at wp; exact wp.elim
    | some k =>
      rw [ek] at wp
      cases hT c k ek with
      | slot sc sl =>
        rename_i i p
        simp only at wp
        cases ed : slotD h i d with
        | none => rw [ed] at wp; exact wp.elim
        | some d' =>
          rw [ed] at wp
          obtain ⟨a, dx, vs, ev, hsl, hg⟩ := slt_rd r q ec (fun n fs e z => by subst e; simp only [slotD, z] at ed; cases ed)
          subst ev
          obtain rfl : u = Value.ref a := ru
          obtain ⟨w, hw, rw_⟩ := hg i d' ed
          exact SlX.getslot_ok I1 hsl sc sl hw fun u' s2 I2 ru' => ⟨w, H1, I2, ru', wp_val r wp rw_⟩
      | fld cl na =>
        simp only at wp
        cases ed : fldD h f d with
        | none => rw [ed] at wp; exact wp.elim
        | some d' =>
          rw [ed] at wp
          cases d with
          | loc n =>
            cases q with
            | loc _ hn =>
              simp only [fldD] at ed
              simp only [clsOf] at ec
              cases e0 : h[n]? with
              | none => rw [e0] at ed; cases ed
              | some o =>
                rw [e0] at ed ec
                cases o with
                | ind c' fs =>
                  cases ec
                  obtain ⟨dx, vs, h1, h2⟩ := r.lv n _ e0
                  obtain rfl : u = Value.ref (ρ.ob n) := ru
                  have := h2.lookup ed
                  obtain ⟨w, hw, rw_⟩ := this
                  exact getattr_ok I1 h1 cl na hw fun u' s2 I2 ru' => ⟨w, H1, I2, ru', wp_val r wp rw_⟩
                | ins _ _ => cases ed
                | lst _ => cases ed
                | dic _ => cases ed
          | _ => cases ed
      | prop sc at_ get tk rc F hr =>
        rename_i g p ga n
        simp only at wp
        split at wp
        case isFalse => exact wp.elim
        rename_i hsb
        have hni : ∀ n fs, d = .loc n → h[n]? ≠ some (.ind c fs) := fun n' fs e z => by
          subst e
          simp only [sltB, z] at hsb
          cases hsb
        obtain ⟨a, dx, vs, ev, hsl, hg⟩ := slt_rd r q ec hni
        subst ev
        obtain rfl : u = Value.ref a := ru
        refine SlX.getprop_sl (E := fun _ _ _ => False) I1 hsl sc at_ get tk rc F hr (fun H s e s' hx => by obtain ⟨_, _, _, _, _, _, _, _, _, _, _, _, z⟩ := hx; exact z) ?_
        refine call_of r (.cons q .nil) rfl ?_
        cases er : callM g [d] h with
        | ok d' h' => rw [er] at wp; exact wp
        | ex c fs h' => rw [er] at wp; exact wp.elim
        | no => rw [er] at wp; exact wp
end
def setA (T : ATab) (f : Str) (o d : D) (h : List O) : Option (List O) := match o with
  | .loc n => match h[n]? with
    | some (.ins c fs) => match T c with
      | some (.slot i) => some (h.set n (.ins c (putSD i d fs)))
      | _ => none
    | some (.ind c fs) => match T c with
      | some .fld => if fs.length < 1000 then some (h.set n (.ind c (putFD f d fs))) else none
      | _ => none
    | _ => none
  | _ => none
def scAttr (T : ATab) (f : Str) (A V : Ac) : Sc := fun s h => (V s h).bindS s fun d h1 => (A s h1).bindS s fun o h2 => match setA T f o d h2 with
  | some h3 => .nx s h3
  | none => .no
section
variable {X : Cx} {G : GI} {W : WX} {o value : Expr} {f : Str} {pos pos' : Pos} {A V : Ac} {T : ATab}
theorem Rel.putIns {ρ : AM} {h : List O} {F R H : Hp} {n c i : Nat} {fs : List (Option D)} {d : D} {v : L2.V} {vs : List (Option L2.V)} (r : Rel G ρ h F R H) (e : h[n]? = some (.ins c fs)) (hsl : SlX.Slt H (ρ.ob n) (G.clA c) (ρ.dx n) vs) (hv : RDq G ρ h.length F fs vs) (q : RD G ρ h.length F d v) :
    Rel G ρ (h.set n (.ins c (putSD i d fs))) F R (SlX.slH H (ρ.ob n) (G.clA c) (ρ.dx n) (SlX.putS i v vs)) := by
  have hn : n < h.length := (List.getElem?_eq_some_iff.mp e).1
  obtain ⟨d1, d2, d3, d4⟩ := r.ins_at e rfl
  have dne : ρ.dx n ≠ ρ.ob n := fun z => d4 n hn z.symm
  have hl : (h.set n (.ins c (putSD i d fs))).length = h.length := List.length_set
  have old : ∀ k x, (h.set n (.ins c (putSD i d fs)))[k]? = some x → (k ≠ n ∧ h[k]? = some x) ∨ (k = n ∧ x = .ins c (putSD i d fs)) := fun k x q => by
    by_cases hk : k = n
    · subst hk
      rw [List.getElem?_set_self hn] at q
      cases q
      exact .inr ⟨rfl, rfl⟩
    · rw [List.getElem?_set_ne (Ne.symm hk)] at q
      exact .inl ⟨hk, q⟩
  have old' : ∀ k x, (h.set n (.ins c (putSD i d fs)))[k]? = some x → isIns x = true → ∃ y, h[k]? = some y ∧ isIns y = true := fun k x q hx => by
    rcases old k x q with ⟨_, q⟩ | ⟨rfl, rfl⟩
    · exact ⟨x, q, hx⟩
    · exact ⟨_, e, rfl⟩
  have ne1 : ∀ a, a ≠ ρ.ob n → a ≠ ρ.dx n → SlX.slH H (ρ.ob n) (G.clA c) (ρ.dx n) (SlX.putS i v vs) a = H a := fun a => SlX.slH_ne
  refine ⟨fun a u z => ?_, fun a u z => ?_, r.fR, fun k x z => ?_, by rw [hl]; exact r.inj, fun a b x y qa qb hx hy z => ?_, by rw [hl]; exact r.lF, by rw [hl]; exact r.lR, fun k hk => ?_, r.tb.step (SubW.refl _) (fun t ht => ne1 _ (fun z => (r.tb.nL t ht n _ e).1 z.symm) fun z => (r.tb.nL t ht n _ e).2 rfl z.symm) r.tb.nF r.tb.nR fun t ht k x q => ?_⟩
  · rw [ne1 a (fun q => by rw [q, r.lF n hn] at z; cases z) (fun q => by rw [q, d1] at z; cases z)]; exact r.fr a u z
  · rw [ne1 a (fun q => by rw [q, r.lR n hn] at z; cases z) (fun q => by rw [q, d2] at z; cases z)]; exact r.rs a u z
  · rw [hl]
    rcases old k x z with ⟨hk, z⟩ | ⟨hk, ex⟩
    · have hk' : k < h.length := (List.getElem?_eq_some_iff.mp z).1
      have a1 : ρ.ob k ≠ ρ.ob n := fun q => hk (r.inj k n hk' hn q)
      have a2 : ρ.ob k ≠ ρ.dx n := d4 k hk'
      have lv := r.lv k x z
      cases x with
      | lst xs => obtain ⟨ws, h1, h2⟩ := lv; exact ⟨ws, by rw [ne1 _ a1 a2]; exact h1, h2⟩
      | dic xs => obtain ⟨ws, h1, h2⟩ := lv; exact ⟨ws, by rw [ne1 _ a1 a2]; exact h1, h2⟩
      | ind c xs => obtain ⟨dx, ws, h1, h2⟩ := lv; exact ⟨dx, ws, by rw [ne1 _ a1 a2]; exact h1, h2⟩
      | ins c' xs =>
        obtain ⟨ws, h1, h2, h3, h4, h5, h7⟩ := lv
        have b1 : ρ.dx k ≠ ρ.ob n := fun q => h7 n hn q.symm
        have b2 : ρ.dx k ≠ ρ.dx n := fun q => hk (r.dinj k n _ _ z e rfl rfl q)
        exact ⟨ws, slt_of h1 (ne1 _ a1 a2) (fun q => by rw [ne1 _ b1 b2]; exact q), h2, h3, h4, by rw [ne1 _ b1 b2]; exact h5, h7⟩
    · subst hk ex
      refine ⟨_, SlX.slH_slt dne, hv.put q i, d1, d2, ?_, d4⟩
      unfold SlX.slH
      rw [upd_ne dne, upd_same]
      exact fun z => nomatch z
  · obtain ⟨x', q1, hx'⟩ := old' a x qa hx
    obtain ⟨y', q2, hy'⟩ := old' b y qb hy
    exact r.dinj a b x' y' q1 q2 hx' hy' z
  · rw [hl] at hk
    by_cases hkn : k = n
    · subst hkn
      unfold SlX.slH
      rw [upd_same]
      exact fun z => nomatch z
    · rw [ne1 _ (fun q => hkn (r.inj k n hk hn q)) (d4 k hk)]
      exact r.lH k hk
  · rcases old k x q with ⟨_, q⟩ | ⟨rfl, rfl⟩
    · exact r.tb.nL t ht k x q
    · exact ⟨(r.tb.nL t ht k _ e).1, fun _ => (r.tb.nL t ht k _ e).2 rfl⟩
theorem ps_attrD (hK : X.K = G.K) (hT : ∀ c k, T c = some k → AOk X G c f k) (ha : PE X o (rd G W A)) (hv : PE X value (rd G W V)) (hs : swapsWith value (some (.Attribute o f pos')) pos.line X.env = pure false) :
    PS X (.Assign [.Attribute o f pos'] value pos) (rdS G W (scAttr T f A V)) := by
  refine ⟨fun pins s σ H D I hq => ?_⟩
  have hr : rd G W V σ H fun y H1 => rd G W A σ H1 fun x H2 => ∃ ρ s h F R d e, Rel G ρ h F R H2 ∧ SRel G ρ h.length F s σ ∧ RD G ρ h.length F d y ∧ RD G ρ h.length F e x ∧ WpS G W R ρ h.length F (match setA T f e d h with
      | some h3 => .nx s h3
      | none => .no) D := by
    obtain ⟨ρ, s, h, F, R, r, sr, wp⟩ := hq
    refine stepS (L := LD G) r sr wp fun ρ1 h1 F1 d y H1 x1 r1 q1 wp1 => ?_
    exact stepS (L := LD G) r1 (sr.mono x1) wp1 fun ρ2 h2 F2 e x H2 x2 r2 q2 wp2 => ⟨ρ2, s, h2, F2, R, d, e, r2, (sr.mono x1).mono x2, q1.mono x2, q2, wp2⟩
  refine plainObj_wpAny_Assign_Attribute (thn (hv.run pins s σ H _ I hr) fun u s1 ⟨y, H1, I1, ry, q⟩ => thn (ha.run pins s1 σ H1 _ I1 q) fun ov s2 ⟨x, H2, I2, rx, ρ, sl, h, F, R, d, e, r, sr, qd, qe, wp⟩ => ?_) hs
  cases e with
  | loc n =>
    cases qe with
    | loc _ hn =>
      obtain rfl : ov = Value.ref (ρ.ob n) := rx
      simp only [setA] at wp
      cases e0 : h[n]? with
      | none => rw [e0] at wp; exact wp.elim
      | some ob =>
        rw [e0] at wp
        cases ob with
        | ins c fs =>
          simp only at wp
          cases ek : T c with
          | none => rw [ek] at wp; exact wp.elim
          | some k =>
            rw [ek] at wp
            cases hT c k ek with
            | fld _ _ => exact wp.elim
            | prop _ _ _ _ _ _ _ => exact wp.elim
            | slot sc st =>
              rename_i i p
              simp only at wp
              obtain ⟨vs, h1, h2, _⟩ := r.lv n _ e0
              refine SlX.setslot_ok I2 h1 sc st ry fun s3 I3 => ⟨σ, _, I3, ?_⟩
              have r' := r.putIns (i := i) e0 h1 h2 qd
              have hl : (h.set n (.ins c (putSD i d fs))).length = h.length := List.length_set
              exact wp ρ F σ _ (by rw [hl]; exact Ext.refl _ _ _) r' (by rw [hl]; exact sr)
        | ind c fs =>
          simp only at wp
          cases ek : T c with
          | none => rw [ek] at wp; exact wp.elim
          | some k =>
            rw [ek] at wp
            cases hT c k ek with
            | slot _ _ => exact wp.elim
            | prop _ _ _ _ _ _ _ => exact wp.elim
            | fld cl na =>
              simp only at wp
              by_cases hz : fs.length < 1000
              case pos =>
                rw [if_pos hz] at wp
                obtain ⟨dx, vs, h1, h2⟩ := r.lv n _ e0
                refine setattr_ok I2 h1 cl na (by rw [← h2.length]; exact hz) ry fun s3 I3 => ⟨σ, _, I3, ?_⟩
                have r' := r.put (o := .ind c (putFD f d fs)) (u := .ins (G.clA c) dx (putF f y vs)) rfl hn ⟨dx, _, upd_same, h2.put qd⟩
                have hl : (h.set n (.ind c (putFD f d fs))).length = h.length := List.length_set
                exact wp ρ F σ _ (by rw [hl]; exact Ext.refl _ _ _) r' (by rw [hl]; exact sr)
              case neg => rw [if_neg hz] at wp; exact wp.elim
        | lst _ => exact wp.elim
        | dic _ => exact wp.elim
  | _ => exact wp.elim
end
def setI (o i d : D) (h : List O) : Option (List O) := match o with
  | .loc n => match h[n]? with
    | some (.lst xs) => match i with
      | .int k => (ixN xs.length k).map fun j => h.set n (.lst (xs.set j d))
      | _ => none
    | some (.dic kvs) => match keyD i with
      | some k => if kvs.length < sizeLine then some (h.set n (.dic (putD kvs k d))) else none
      | none => none
    | _ => none
  | _ => none
def scItem (A B V : Ac) : Sc := fun s h => (V s h).bindS s fun d h1 => (A s h1).bindS s fun o h2 => (B s h2).bindS s fun i h3 => match setI o i d h3 with
  | some h4 => .nx s h4
  | none => .no
def rSetA (G : GI) : TSet := fun o i v H Q => rSetL o i v H Q ∨ rSetD o i v H Q
section
variable {X : Cx} {G : GI} {W : WX} {o i value : Expr} {pos pos' : Pos} {A B V : Ac}
theorem set_any (hu : X.A.units + 1 < cLine) : PSet X (rSetA G) := by
  intro pins s σ H o i v ov iv u Q I ro ri rv h
  rcases h with h | h
  · exact set_list pins s σ H o i v ov iv u Q I ro ri rv h
  · exact set_dict hu pins s σ H o i v ov iv u Q I ro ri rv h
theorem ps_itemD (hu : X.A.units + 1 < cLine) (ha : PE X o (rd G W A)) (hb : PE X i (rd G W B)) (hv : PE X value (rd G W V))
    (hs : swapsWithSole [.Subscript o i pos'] value pos.line X.env = pure false) (hw : swappedStores [.Subscript o i pos'] value X.env = pure none)
    (hasg : ∀ v, assign (.Subscript o i pos') X.env v = (do
      let ov ← holding [v] (eval o X.env)
      let iv ← holding [v, ov] (eval i X.env)
      standAt pos'
      holding [v, ov, iv] (setItem ov iv v)
      release [v, ov, iv] [])) :
    PS X (.Assign [.Subscript o i pos'] value pos) (rdS G W (scItem A B V)) :=
  (ps_asg hv (pg_sub ha hb (set_any (G := G) hu) hasg) hs hw rfl).weakL fun D σ H hq => by
    obtain ⟨ρ, s, h, F, R, r, sr, wp⟩ := hq
    refine stepS (L := LD G) r sr wp fun ρ1 h1 F1 d y H1 x1 r1 q1 wp1 => ?_
    refine stepS (L := LD G) r1 (sr.mono x1) wp1 fun ρ2 h2 F2 e x H2 x2 r2 q2 wp2 => ?_
    refine stepS (L := LD G) r2 ((sr.mono x1).mono x2) wp2 fun ρ3 h3 F3 ix xi H3 x3 r3 q3 wp3 => ?_
    have qd := (q1.mono x2).mono x3
    have qe := q2.mono x3
    have sr3 := ((sr.mono x1).mono x2).mono x3
    cases e with
    | loc n =>
      cases qe with
      | loc _ hn =>
        simp only [setI] at wp3
        cases e0 : h3[n]? with
        | none => rw [e0] at wp3; exact wp3.elim
        | some ob =>
          rw [e0] at wp3
          cases ob with
          | lst xs =>
            obtain ⟨vs, a1, a2⟩ := r3.lv n _ e0
            cases ix with
            | int k =>
              cases q3
              simp only at wp3
              cases e1 : ixN xs.length k with
              | none => rw [e1] at wp3; exact wp3.elim
              | some j =>
                rw [e1] at wp3
                simp only [Option.map_some] at wp3
                refine .inl ⟨_, vs, k, j, rfl, rfl, a1, by rw [← a2.length]; exact e1, ?_⟩
                have r' := r3.put (o := .lst (xs.set j d)) (u := .lst (vs.set j y)) rfl hn ⟨_, upd_same, RDs.set qd j a2⟩
                have hl : (h3.set n (.lst (xs.set j d))).length = h3.length := List.length_set
                exact wp3 ρ3 F3 σ _ (by rw [hl]; exact Ext.refl _ _ _) r' (by rw [hl]; exact sr3)
            | _ => exact wp3.elim
          | dic kvs =>
            obtain ⟨vs, a1, a2⟩ := r3.lv n _ e0
            simp only at wp3
            cases e1 : keyD ix with
            | none => rw [e1] at wp3; exact wp3.elim
            | some k =>
              rw [e1] at wp3
              simp only at wp3
              by_cases hz : kvs.length < sizeLine
              case pos =>
                rw [if_pos hz] at wp3
                have ek := keyD_rd e1 q3
                subst ek
                refine .inr ⟨_, _, rfl, DPut.k a1 (by rw [← a2.length]; exact hz), ?_⟩
                have r' := r3.put (o := .dic (putD kvs k d)) (u := .dK (putK vs k y)) rfl hn ⟨_, upd_same, a2.put qd⟩
                have hl : (h3.set n (.dic (putD kvs k d))).length = h3.length := List.length_set
                exact wp3 ρ3 F3 σ _ (by rw [hl]; exact Ext.refl _ _ _) r' (by rw [hl]; exact sr3)
              case neg => rw [if_neg hz] at wp3; exact wp3.elim
          | ins _ _ => exact wp3.elim
          | ind _ _ => exact wp3.elim
    | _ => exact wp3.elim
end
end Lo
namespace PySem
open Sem (wp)
section
variable {prog : Program} {w : World} {A : Around} {E : Value → Shared → Prop} {s : Shared} {K : PySem.W.Frag} {x y C f : Addr} {ox : Obj} {odd : Option Obj}
theorem lo_len_own {Q : Value → Shared → Prop} (X : K.In s.heap) (I : PySem.W.InstAt s.heap x ox C odd) (hs : PySem.W.findIn K (.ref C) "__len__" = some (some (.ref f))) (hf : PySem.W.isFn K (.ref f) = true)
    (hcall : wpAny (model prog w) A.in1 (call (.ref f) [.ref x]) (fun r s' => ∃ n u, r = .int n u ∧ 0 ≤ n ∧ n < 2 ^ 63 ∧ Q (.int n s'.toks) { s' with toks := s'.toks + 1 }) E s) :
    wpAny (model prog w) A (call (.builtin "len") [.ref x]) Q E s := by
  refine Calls.call_function_entry kind_len plain_len entry_len (args_len1 _) ?_
  unfold Builtin.«len»
  refine wpAny_bind (m := oneArg "len" _) (wpAny_pure ?_)
  refine wpAny_bind (m := callSpecial? (.ref x) (Str.ofString "__len__")) (PySem.W.special_fn X I hs (beq_iff_eq.mp hf) (wpAny_mono hcall (fun r s' hr => ?_) fun _ _ y => y))
  obtain ⟨n, u, rfl, h0, h1, hq⟩ := hr
  refine wpAny_bind (wpAny_holding (wpAny_pure ?_))
  refine wpAny_bind (wpAny_letGo ?_)
  show wpAny _ _ (if n < 0 then _ else _) _ _ _
  rw [if_neg (by omega)]
  show wpAny _ _ (if n ≥ 2 ^ 63 then _ else _) _ _ _
  rw [if_neg (by omega)]
  exact wpAny_bind (wpAny_mkInt (wpAny_pure ⟨_, rfl, hq⟩))
theorem lo_slot_ne : Slot "object" "__ne__" "object.__ne__" :=
  Slot.of (owner := "object") (n := "__ne__") (by rw [typeLookup_type, builtinLookup_eq_fast]; kernel_rfl) (by decide +kernel) (by decide +kernel) (by decide +kernel) (.inl (by decide +kernel)) (by rw [isSubtype_type]; kernel_rfl)
theorem lo_objNe (X : K.In s.heap) (I : PySem.W.InstAt s.heap x ox C odd) (hs : PySem.W.findIn K (.ref C) "__eq__" = some (some (.ref f))) (hf : PySem.W.isFn K (.ref f) = true) (hu : A.units < cLine) {Q : Fin → Shared → Prop}
    (hcall : wpAny (model prog w) A (call (.ref f) [.ref x, .ref y]) (fun v s' => ∃ b, v = .bool b ∧ Q (.done (.ret (.bool (!b)))) s') E s) :
    wpAny (model prog w) A (Builtin.«object.__ne__» ⟨[.ref x, .ref y], []⟩) Q E s := by
  unfold Builtin.«object.__ne__»
  repeat (first
    | with_reducible refine wpAny_cRoomFor hu ?_
    | (refine wpAny_bind (m := callSpecialIfBound? (.ref x) (Str.ofString "__eq__") [.ref y])
        (PySem.W.ifBound_K X I hs hf (wpAny_mono hcall (fun r s' hr => by
          obtain ⟨b, rfl, hq⟩ := hr
          repeat (first | exact hq | exact wpAny_pure hq | exact wpAny_truthy_bool hq | (refine wpAny_bind (m := truthy (.bool _)) (wpAny_truthy_bool ?_)) | wp_step)) fun _ _ e => e)))
    | wp_step)
theorem lo_ne_own {Q : Value → Shared → Prop} (X : K.In s.heap) (I : PySem.W.InstAt s.heap x ox C odd) (hy : PySem.W.Looks (model prog w) s.heap (typeOf (.ref y)) (.ref C)) (hn : PySem.W.findIn K (.ref C) "__ne__" = some (some (.builtin "object.__ne__")))
    (hs : PySem.W.findIn K (.ref C) "__eq__" = some (some (.ref f))) (hf : PySem.W.isFn K (.ref f) = true) (mr : PySem.W.mroIn K C (.type "object") = some true) (hu : A.units + 1 < cLine)
    (hcall : wpAny (model prog w) A.in1 (call (.ref f) [.ref x, .ref y]) (fun v s' => ∃ b, v = .bool b ∧ Q (.bool (!b)) s') E s) :
    wpAny (model prog w) A (compareOp .NotEq (.ref x) (.ref y)) Q E s := by
  have one : wpAny (model prog w) A (tryCompare (.ref x) "__ne__" (.ref y)) (fun r s' => ∃ v, r = some v ∧ Q v s') E s := by
    unfold tryCompare
    have inst : PySem.W.Looks (model prog w) s.heap (isInstance (.ref x) (.type "object")) true := I.type.andThen (PySem.W.looks_mroIn X mr)
    have hcl : wpAny (model prog w) A (call (.builtin "object.__ne__") [.ref x, .ref y]) (fun v s' => ∃ b, v = .bool b ∧ Q v s') E s := by
      refine wpAny_call (codeAny_call_builtin lo_slot_ne.plain F.cmpEntry_ne (PySem.W.check_slot F.cmpKind_ne F.cmpSplit_ne inst (F.cmpArgs_ne _ _) ?_))
      refine lo_objNe (A := A.in1) X I hs hf hu (wpAny_mono hcall (fun v s' hv => ?_) fun _ _ e => e)
      obtain ⟨b, rfl, hq⟩ := hv
      exact ⟨b, rfl, _, rfl, hq⟩
    refine wpAny_bind ?_
    simp only [callSpecialIfBound?, bindSpecialIfBound?]
    refine wpAny_holding (wpAny_bind (wpAny_bind (wpAny_bind (I.type.here ((PySem.W.looks_findIn X hn).here ?_)))))
    simp only [lo_slot_ne.bind]
    refine wpAny_bind (wpAny_askSetting (wpAny_ite ?_))
    have fin : ∀ {T : Option Value → Shared → Prop}, (∀ b s', Q (.bool b) s' → T (some (.bool b)) s') → wpAny (model prog w) A (call (.builtin "object.__ne__") ([.ref x] ++ [.ref y]) >>= fun v => pure (some v)) T E s := fun k => by
      refine wpAny_bind (wpAny_mono hcl (fun v s' hv => ?_) fun _ _ e => e)
      obtain ⟨b, rfl, hq⟩ := hv
      exact wpAny_pure (k b s' hq)
    split
    · exact wpAny_bind (wpAny_pure (wpAny_pure (by exact fin fun b s' hq => wpAny_pure ⟨_, rfl, hq⟩)))
    · exact wpAny_tryCatch (wpAny_bind (wpAny_pure (wpAny_pure (by exact fin fun b s' hq => wpAny_pure ⟨_, rfl, hq⟩))))
  show wpAny _ _ (richCompare .NotEq (.ref x) (.ref y)) _ _ _
  unfold richCompare
  simp only [oneThing_ref]
  refine wpAny_holding (wpAny_bind (wpAny_cRoomFor (Nat.lt_of_succ_lt hu) ?_))
  rw [cmpInfo_NotEq]
  dsimp only
  refine wpAny_bind (I.type.here (wpAny_bind (hy.here ?_)))
  rw [show (Value.ref C != Value.ref C) = false from by simp]
  simp only [Bool.false_eq_true, if_false]
  refine wpAny_bind (wpAny_pure ?_)
  simp only [Bool.false_eq_true, if_false]
  refine wpAny_bind (wpAny_mono one (fun r s' z => ?_) fun _ _ e => e)
  obtain ⟨v, rfl, hq⟩ := z
  exact wpAny_pure hq
end
end PySem
namespace Lo
open PySem PySem.Spec PyProof.Rows L2
def eqHits (h : List O) (kb : List (Key × D)) : List (Key × D) → Option Bool
  | [] => some true
  | (k, d) :: r => match lookK kb k with
    | none => some false
    | some e => match eqD h d e with
      | none => none
      | some b => (eqHits h kb r).map fun c => b && c
def eqDic (h : List O) (ka kb : List (Key × D)) : Option Bool := if ka.length = kb.length then eqHits h kb ka else some false
def eqX : P2 := fun d e h => match dicOf h d, dicOf h e with
  | some ka, some kb => bD (eqDic h ka kb) h
  | _, _ => eqP d e h
def neX : P2 := fun d e h => match dicOf h d, dicOf h e with
  | some ka, some kb => bD ((eqDic h ka kb).map not) h
  | _, _ => neP d e h
section
variable {X : Cx} {G : GI}
theorem hits_of {ρ : AM} {h : List O} {F R H : Hp} {pins : List (Addr × Obj)} {σ : L2.St} {s : Shared} (hK : X.K = G.K) (hu : X.A.units + 65 < cLine) (I : Inv X pins σ H s) (r : Rel G ρ h F R H) {kb : List (Key × D)} {ls : List (Key × V)} {vb : List (Key × Value)} (rb : RDk G ρ h.length F kb ls) (kv : KV ls vb) :
    ∀ {ka : List (Key × D)} {ks : List (Key × V)} {va : List (Key × Value)} {b : Bool}, eqHits h kb ka = some b → RDk G ρ h.length F ka ks → KV ks va → PySem.W.KeqHits X.A.in1 s vb va b
  | [], ks, va, b, e, ra, kva => by
    cases ra
    cases kva
    simp [eqHits] at e
    subst e
    exact .nil
  | (k, d) :: r', ks, va, b, e, ra, kva => by
    cases ra with
    | @cons _ _ v _ ks' qa qr =>
      unfold KV at kva
      cases kva with
      | @cons _ q _ qs hh ht =>
        obtain ⟨k', u⟩ := q
        obtain ⟨h1, h2⟩ := hh
        have h1 : k = k' := h1
        subst h1
        have rr := kv.val k
        simp only [eqHits] at e
        rcases rb.look k with ⟨e1, e2⟩ | ⟨d', v', e1, e2, e3⟩
        · rw [e1] at e
          cases e
          rw [e2] at rr
          exact .miss (RelO.none_of rr)
        · rw [e1] at e
          simp only at e
          rw [e2] at rr
          obtain ⟨y, hy, ry⟩ := rr.some_of
          cases e4 : eqD h d d' with
          | none => rw [e4] at e; cases e
          | some c =>
            rw [e4] at e
            simp only at e
            obtain ⟨c', e5, e6⟩ := Option.map_eq_some_iff.mp e
            subst e6
            obtain ⟨p, q, d1, d2, s1, s2, ec⟩ := eqD_dp r e4 qa e3
            rw [← hK] at d1 d2
            obtain ⟨as, r1⟩ := Dp.reads I p v u d1 h2
            obtain ⟨bs, r2⟩ := Dp.reads I q v' y d2 ry
            refine .hit hy ?_ (hits_of hK hu I r rb kv e5 qr ht)
            rw [ec]
            refine SeqAt.eqAt_reads p q _ s u y as bs r1 r2 (SeqAt.canLay_of_shaped s1) (SeqAt.canLay_of_shaped s2) (SeqAt.room_of_shaped s1 ?_)
            show X.A.units + 1 + 64 < cLine
            omega
theorem dic_eq {ρ : AM} {h : List O} {F R H : Hp} {pins : List (Addr × Obj)} {σ : L2.St} {s : Shared} {d e : D} {x y : V} {v u : Value} {ka kb : List (Key × D)} {b : Bool} (hK : X.K = G.K) (hu : X.A.units + 65 < cLine) (I : Inv X pins σ H s) (r : Rel G ρ h F R H) (q1 : RD G ρ h.length F d x) (q2 : RD G ρ h.length F e y) (rx : RelV x v) (ry : RelV y u)
    (e1 : dicOf h d = some ka) (e2 : dicOf h e = some kb) (hb : eqDic h ka kb = some b) :
    ∃ a c, v = .ref a ∧ u = .ref c ∧ ∃ va vb, (a == sysModules) = false ∧ (c == sysModules) = false ∧ s.heap.DictOf (mixKind X.prog X.w) a va ∧ s.heap.DictOf (mixKind X.prog X.w) c vb ∧ ∃ k, (va.length = vb.length → PySem.W.KeqHits X.A.in1 s vb va k) ∧ b = (va.length == vb.length && k) := by
  obtain ⟨a, ks, ex, ha, ra⟩ := dic_rd r e1 q1
  obtain ⟨c, ls, ey, hc, rc⟩ := dic_rd r e2 q2
  subst ex ey
  obtain ⟨_, ya, va, kva, da⟩ := dk_rd I.hok ha
  obtain ⟨_, yc, vb, kvb, db⟩ := dk_rd I.hok hc
  have l1 : ka.length = va.length := ra.length.trans kva.length
  have l2 : kb.length = vb.length := rc.length.trans kvb.length
  refine ⟨a, c, rx, ry, va, vb, ya, yc, da, db, ?_⟩
  unfold eqDic at hb
  split at hb
  · rename_i hl
    refine ⟨b, fun _ => hits_of hK hu I r rc kvb hb ra kva, ?_⟩
    rw [← l1, ← l2, hl]
    simp
  · rename_i hl
    cases hb
    refine ⟨true, fun z => absurd (l1.trans (z.trans l2.symm)) hl, ?_⟩
    have : (va.length == vb.length) = false := by
      rw [← l1, ← l2]
      exact beq_eq_false_iff_ne.mpr hl
    rw [this]
    rfl
theorem or_eqX (hK : X.K = G.K) (hu : X.A.units + 65 < cLine) : OpR X (compareOp .Eq) (rop G eqX) := by
  intro pins s σ H x y v u Q I rx ry h
  obtain ⟨ρ, h0, F, R, d, e, r, q1, q2, wp⟩ := h
  have els : Wp G (LD G) W0 R ρ h0.length F (Res.of (eqP d e h0)) [] Q → wpAny (model X.prog X.w) X.A (compareOp .Eq v u) (EP X pins σ Q) X.xe s := fun wp => or_eq hK hu pins s σ H x y v u Q I rx ry ⟨ρ, h0, F, R, d, e, r, q1, q2, wp⟩
  unfold eqX at wp
  cases e1 : dicOf h0 d with
  | none => rw [e1] at wp; exact els wp
  | some ka =>
    cases e2 : dicOf h0 e with
    | none => rw [e1, e2] at wp; exact els wp
    | some kb =>
      rw [e1, e2] at wp
      simp only at wp
      cases hb : eqDic h0 ka kb with
      | none => rw [hb] at wp; exact wp.elim
      | some b =>
        rw [hb] at wp
        obtain ⟨a, c, rfl, rfl, va, vb, ya, yc, da, db, k, hk, eb⟩ := dic_eq hK hu I r q1 q2 rx ry e1 e2 hb
        refine PySem.W.keq_eq (knd := mixKind X.prog X.w) ya yc da db (by omega) hk ?_
        rw [← eb]
        exact ⟨.bl b, H, I, rfl, wp_val r wp (.bl b)⟩
theorem or_neX (hK : X.K = G.K) (hu : X.A.units + 65 < cLine) : OpR X (compareOp .NotEq) (rop G neX) := by
  intro pins s σ H x y v u Q I rx ry h
  obtain ⟨ρ, h0, F, R, d, e, r, q1, q2, wp⟩ := h
  have els : Wp G (LD G) W0 R ρ h0.length F (Res.of (neP d e h0)) [] Q → wpAny (model X.prog X.w) X.A (compareOp .NotEq v u) (EP X pins σ Q) X.xe s := fun wp => or_ne hK hu pins s σ H x y v u Q I rx ry ⟨ρ, h0, F, R, d, e, r, q1, q2, wp⟩
  unfold neX at wp
  cases e1 : dicOf h0 d with
  | none => rw [e1] at wp; exact els wp
  | some ka =>
    cases e2 : dicOf h0 e with
    | none => rw [e1, e2] at wp; exact els wp
    | some kb =>
      rw [e1, e2] at wp
      simp only at wp
      cases hb : eqDic h0 ka kb with
      | none => rw [hb] at wp; exact wp.elim
      | some b =>
        rw [hb] at wp
        obtain ⟨a, c, rfl, rfl, va, vb, ya, yc, da, db, k, hk, eb⟩ := dic_eq hK hu I r q1 q2 rx ry e1 e2 hb
        refine PySem.W.keq_ne (knd := mixKind X.prog X.w) ya yc da db (by omega) hk ?_
        rw [← eb]
        exact ⟨.bl (!b), H, I, rfl, wp_val r wp (.bl _)⟩
end
end Lo
namespace Lo
open PySem PySem.Spec PyProof.Rows L2
section
variable {X : Cx} {G : GI} {W : WX}
theorem Wp.sig {ρ : AM} {m : Nat} {F R : Hp} {r : Res D} {σ : L2.St} {Q : VK} (h : Wp G (LD G) W R ρ m F r σ Q) : Wp G (LD G) (fun c d _ H => W c d σ H) R ρ m F r [] Q := by
  cases r with
  | ok d h' => exact h
  | ex c fs h' => exact h
  | no => exact h
theorem run_D {pins : List (Addr × Obj)} {σ : L2.St} {H : Hp} {s : Shared} {Q : VK} {us : List Value} {vs : List V} {k : Nat} {f : Addr} {sp : Sp} (F : FnR X.prog X.w X.K X.mg X.base (CX X.prog X.w) k f sp) (hr : Room k X.A) (tk : Takes X W) (I : Inv X pins σ H s) (r : Vals vs us)
    (h : sp vs H Q (fun c d H => W c d σ H)) : wpAny (model X.prog X.w) X.A (call (.ref f) us) (EP X pins σ Q) X.xe s := by
  refine wpAny_call (codeAny_mono (F X.A X.stack s H us vs Q _ hr I.env0 r h) fun r s' hq => ?_)
  cases r with
  | error e => exact tk e s' (XE.of_call I (fun _ _ _ h => h) hq)
  | ok fl =>
    cases fl with
    | ret u => exact I.after hq
    | next => exact False.elim hq
    | brk => exact False.elim hq
    | cont => exact False.elim hq
end
def acCall (f : FnD) (n : Nat) (L : AcL) : Ac := fun s h => (L s h).bind fun ds h1 => if ds.length = n then callM f ds h1 else .no
def acRaw (f : FnD) (n : Nat) (L : AcL) : Ac := fun s h => (L s h).bind fun ds h1 => if ds.length = n then f ds h1 else .no
def newO (lv : Bool) (c : Nat) : O := if lv = true then .ind c [] else .ins c []
def initF (lv : Bool) (c : Nat) (f : FnD) : FnD := fun ds h => match f (.loc h.length :: ds) (h ++ [newO lv c]) with
  | .ok .non h' => .ok (.loc h.length) h'
  | .ok _ _ => .no
  | .ex a b c => .ex a b c
  | .no => .no
section
variable {X : Cx} {G : GI} {W : WX} {e : Expr} {es : List Expr} {L : AcL} {x : Str} {p pos : Pos} {f : FnD} {n k : Nat} {fa C : Addr}
theorem rd_call {σ : L2.St} {H : Hp} {Q : VK} (h : rd G W (acCall f n L) σ H Q) : rdA G W L σ H fun vs H1 => spOf G f n vs H1 Q (fun c d H => W c d σ H) := by
  obtain ⟨ρ, s, h, F, R, r, sr, wp⟩ := h
  refine step (L := LDs G) r sr wp fun ρ1 h1 F1 ds vs H1 x1 r1 q1 wp1 => ?_
  split at wp1
  · rename_i hl
    exact call_of r1 q1 hl wp1.sig
  · exact wp1.elim
theorem rd_raw {σ : L2.St} {H : Hp} {Q : VK} (h : rd G W (acRaw f n L) σ H Q) : rdA G W L σ H fun vs H1 => spOf G f n vs H1 Q (fun c d H => W c d σ H) := by
  obtain ⟨ρ, s, h, F, R, r, sr, wp⟩ := h
  refine step (L := LDs G) r sr wp fun ρ1 h1 F1 ds vs H1 x1 r1 q1 wp1 => ?_
  split at wp1
  · rename_i hl
    exact raw_of r1 q1 hl wp1.sig
  · exact wp1.elim
theorem pe_callG {A : Ac} (hA : ∀ σ H Q, rd G W A σ H Q → rdA G W L σ H fun vs H1 => spOf G f n vs H1 Q (fun c d H => W c d σ H)) (F : FnR X.prog X.w X.K X.mg X.base (CX X.prog X.w) k fa (spOf G f n)) (hr : Room k X.A) (tk : Takes X W) (hg : Gl X x) (hm : X.mg x = some (.ref fa)) (hk : PySem.W.keepIn X.K (.ref fa) = true)
    (ha : PA X (e :: es) (rdA G W L)) (hdb : (x == ("__debug__" : Str)) = false) (he : starEach (e :: es) X.env = (false, eval e X.env) :: starEach es X.env) (hpl : (backTo pos (starEach es X.env)).any (·.1) = false) :
    PE X (.Call (.Name x p) (e :: es) [] pos) (rd G W A) := by
  refine ⟨fun pins s σ H Q I h => ?_⟩
  refine wpAny_Call_Name_kw (ld_glob I hg hm ?_ hdb)
  refine PySem.W.callWith_K (h₀ := X.base) I.ok.mod.kin hk (thn (ha.run pos pins s σ H _ I (hA σ H Q h)) fun us s1 ⟨vs, H1, I1, r, q⟩ => ⟨I1.kIn, ?_⟩) he hpl
  exact run_D F hr tk I1 r q
theorem pe_callG0 {A : Ac} (hA : ∀ σ H Q, rd G W A σ H Q → rdA G W alNil σ H fun vs H1 => spOf G f n vs H1 Q (fun c d H => W c d σ H)) (F : FnR X.prog X.w X.K X.mg X.base (CX X.prog X.w) k fa (spOf G f n)) (hr : Room k X.A) (tk : Takes X W) (hg : Gl X x) (hm : X.mg x = some (.ref fa)) (hk : PySem.W.keepIn X.K (.ref fa) = true)
    (hdb : (x == ("__debug__" : Str)) = false) : PE X (.Call (.Name x p) [] [] pos) (rd G W A) := by
  refine ⟨fun pins s σ H Q I h => ?_⟩
  refine wpAny_Call_Name_kw (ld_glob I hg hm ?_ hdb)
  have z : spOf G f n [] H Q (fun c d H => W c d σ H) := by
    obtain ⟨ρ, s, h, F, R, r, sr, wp⟩ := hA σ H Q h
    exact wp ρ F [] H (Ext.refl _ _ _) r .nil
  exact PySem.W.callWith_K0 I.kIn hk (run_D (us := []) F hr tk I .nil z)
theorem pe_callD (F : FnR X.prog X.w X.K X.mg X.base (CX X.prog X.w) k fa (spOf G f n)) (hr : Room k X.A) (tk : Takes X W) (hg : Gl X x) (hm : X.mg x = some (.ref fa)) (hk : PySem.W.keepIn X.K (.ref fa) = true)
    (ha : PA X (e :: es) (rdA G W L)) (hdb : (x == ("__debug__" : Str)) = false) (he : starEach (e :: es) X.env = (false, eval e X.env) :: starEach es X.env) (hpl : (backTo pos (starEach es X.env)).any (·.1) = false) :
    PE X (.Call (.Name x p) (e :: es) [] pos) (rd G W (acCall f n L)) := pe_callG (fun _ _ _ => rd_call) F hr tk hg hm hk ha hdb he hpl
theorem pe_call0D (F : FnR X.prog X.w X.K X.mg X.base (CX X.prog X.w) k fa (spOf G f n)) (hr : Room k X.A) (tk : Takes X W) (hg : Gl X x) (hm : X.mg x = some (.ref fa)) (hk : PySem.W.keepIn X.K (.ref fa) = true)
    (hdb : (x == ("__debug__" : Str)) = false) : PE X (.Call (.Name x p) [] [] pos) (rd G W (acCall f n alNil)) := pe_callG0 (fun _ _ _ => rd_call) F hr tk hg hm hk hdb
theorem mk_sp {lv : Bool} {c : Nat} {vs : List V} {H : Hp} {Q : VK} {E : XK} (h : spOf G (initF lv c f) n vs H Q E) {xa dx : Addr} (hx : H xa = none) (hd : H dx = none) (hne : dx ≠ xa) :
    spOf G f (n + 1) (.ref xa :: vs) (upd (upd H dx (.own xa)) xa (.ins (G.clA c) dx [])) (fun v H2 => v = .non ∧ Q (.ref xa) H2) E := by
  obtain ⟨ρ, h, F, R, ds, r, q, hl, wp⟩ := h
  have hH : ∀ b, H b ≠ none → upd (upd H dx (.own xa)) xa (.ins (G.clA c) dx []) b = H b := fun b hb => by
    rw [upd_ne (fun z => hb (by rw [z]; exact hx)), upd_ne (fun z => hb (by rw [z]; exact hd))]
  have nw : Rel G (rext ρ h.length xa dx) (h ++ [newO lv c]) F R (upd (upd H dx (.own xa)) xa (.ins (G.clA c) dx [])) ∧ Ext ρ h.length F (rext ρ h.length xa dx) (h ++ [newO lv c]).length F := by
    refine r.newG hx hH (by rw [upd_same]; exact fun z => nomatch z) (fun _ => hd) ?_
    cases lv with
    | true => exact ⟨dx, [], by rw [rext_at, upd_same], .nil⟩
    | false =>
      refine ⟨[], .inl ⟨by rw [rext_at, rext_dx, upd_same], rfl⟩, fun i d e => by simp at e, ?_, ?_, ?_, fun k hk => ?_⟩
      · rw [rext_dx]; exact r.fnone hd
      · rw [rext_dx]; exact r.rnone hd
      · rw [rext_dx, upd_ne hne, upd_same]; exact fun z => nomatch z
      · rw [rext_dx]
        by_cases hkl : k < h.length
        · rw [rext_lt hkl]; exact fun z => r.lH k hkl (by rw [z]; exact hd)
        · rw [show k = h.length by omega, rext_at]; exact Ne.symm hne
  obtain ⟨r1, x1⟩ := nw
  have ql : RD G (rext ρ h.length xa dx) (h ++ [newO lv c]).length F (.loc h.length) (.ref xa) := by
    have := RD.loc (G := G) (ρ := rext ρ h.length xa dx) (m := (h ++ [newO lv c]).length) (F := F) h.length (by simp)
    rw [rext_at] at this
    exact this
  refine ⟨_, _, F, R, .loc h.length :: ds, r1, .cons ql (q.mono x1), by simp [hl], ?_⟩
  unfold initF at wp
  cases e : f (.loc h.length :: ds) (h ++ [newO lv c]) with
  | no => rw [e] at wp; exact wp.elim
  | ex a b h' =>
    rw [e] at wp
    exact fun ρ' F' cls dd H' x r' q' => wp ρ' F' cls dd H' (x1.trans x) r' q'
  | ok d h' =>
    rw [e] at wp
    cases d with
    | non =>
      intro ρ' F' v H' x r' q'
      cases q'
      exact ⟨rfl, wp ρ' F' _ H' (x1.trans x) r' (ql.mono x)⟩
    | _ => exact wp.elim
theorem run_mk {lv : Bool} {c : Nat} {pins : List (Addr × Obj)} {σ : L2.St} {H : Hp} {s : Shared} {Q : VK} {us : List Value} {vs : List V} (M : Mk X.K (G.clA c) fa) (F : FnR X.prog X.w X.K X.mg X.base (CX X.prog X.w) k fa (spOf G f (n + 1))) (hr : Room (k + 1) X.A) (tk : Takes X W)
    (I : Inv X pins σ H s) (r : Vals vs us) (h : spOf G (initF lv c f) n vs H Q (fun c d H => W c d σ H)) : wpAny (model X.prog X.w) X.A (call (.ref (G.clA c)) us) (EP X pins σ Q) X.xe s := by
  have hq := mk_sp h (I.hok.fresh (Nat.le_succ _)) (I.hok.fresh (Nat.le_refl _)) (Nat.ne_of_lt (Nat.lt_succ_self s.heap.objs.size))
  have I2 := Inv.made (C := G.clA c) I
  have r2 : Vals (V.ref (s.heap.objs.size + 1) :: vs) (Value.ref (s.heap.objs.size + 1) :: us) := .cons rfl r
  refine wpAny_call (make_map (f := fa) I.kIn M.makes M.init (beq_iff_eq.mp M.fn) (codeAny_mono (F _ X.stack _ _ (Value.ref (s.heap.objs.size + 1) :: us) _ _ _ (hr.make (G.clA c) us [])
    (I2.env0.make (G.clA c) us []) r2 hq) fun r s' hq' => ?_))
  cases r with
  | error e => exact tk e s' (XE.of_call I2 (fun _ _ _ h => h) hq')
  | ok fl =>
    cases fl with
    | ret u =>
      obtain ⟨v, H', I3, rv, ev, q3⟩ := I2.after hq'
      subst ev
      exact ⟨rv, ⟨V.ref (s.heap.objs.size + 1), H', I3, rfl, q3⟩⟩
    | next => exact False.elim hq'
    | brk => exact False.elim hq'
    | cont => exact False.elim hq'
theorem pe_makeG {A : Ac} {lv : Bool} {c : Nat} (hA : ∀ σ H Q, rd G W A σ H Q → rdA G W L σ H fun vs H1 => spOf G (initF lv c f) n vs H1 Q (fun c d H => W c d σ H)) (M : Mk X.K (G.clA c) fa) (F : FnR X.prog X.w X.K X.mg X.base (CX X.prog X.w) k fa (spOf G f (n + 1))) (hr : Room (k + 1) X.A) (tk : Takes X W) (hg : Gl X x) (hm : X.mg x = some (.ref (G.clA c)))
    (ha : PA X (e :: es) (rdA G W L)) (hdb : (x == ("__debug__" : Str)) = false) (he : starEach (e :: es) X.env = (false, eval e X.env) :: starEach es X.env) (hpl : (backTo pos (starEach es X.env)).any (·.1) = false) :
    PE X (.Call (.Name x p) (e :: es) [] pos) (rd G W A) := by
  refine ⟨fun pins s σ H Q I h => ?_⟩
  refine wpAny_Call_Name_kw (ld_glob I hg hm ?_ hdb)
  refine PySem.W.callWith_K (h₀ := X.base) I.ok.mod.kin M.kp (thn (ha.run pos pins s σ H _ I (hA σ H Q h)) fun us s1 ⟨vs, H1, I1, r, q⟩ => ⟨I1.kIn, ?_⟩) he hpl
  exact run_mk M F hr tk I1 r q
theorem pe_makeD {c : Nat} (M : Mk X.K (G.clA c) fa) (F : FnR X.prog X.w X.K X.mg X.base (CX X.prog X.w) k fa (spOf G f (n + 1))) (hr : Room (k + 1) X.A) (tk : Takes X W) (hg : Gl X x) (hm : X.mg x = some (.ref (G.clA c)))
    (ha : PA X (e :: es) (rdA G W L)) (hdb : (x == ("__debug__" : Str)) = false) (he : starEach (e :: es) X.env = (false, eval e X.env) :: starEach es X.env) (hpl : (backTo pos (starEach es X.env)).any (·.1) = false) :
    PE X (.Call (.Name x p) (e :: es) [] pos) (rd G W (acCall (initF false c f) n L)) := pe_makeG (lv := false) (fun _ _ _ => rd_call) M F hr tk hg hm ha hdb he hpl
theorem pe_makeL {c : Nat} (M : Mk X.K (G.clA c) fa) (F : FnR X.prog X.w X.K X.mg X.base (CX X.prog X.w) k fa (spOf G f (n + 1))) (hr : Room (k + 1) X.A) (tk : Takes X W) (hg : Gl X x) (hm : X.mg x = some (.ref (G.clA c)))
    (ha : PA X (e :: es) (rdA G W L)) (hdb : (x == ("__debug__" : Str)) = false) (he : starEach (e :: es) X.env = (false, eval e X.env) :: starEach es X.env) (hpl : (backTo pos (starEach es X.env)).any (·.1) = false) :
    PE X (.Call (.Name x p) (e :: es) [] pos) (rd G W (acRaw (initF true c f) n L)) := pe_makeG (lv := true) (fun _ _ _ => rd_raw) M F hr tk hg hm ha hdb he hpl
end
def metB (sl : Bool) (h : List O) (c : Nat) (m : Str) : D → Bool
  | .obj c' _ => sl && c' == c
  | .loc n => match h[n]? with
    | some (.ins c' _) => sl && c' == c
    | some (.ind c' fs) => !sl && c' == c && (fs.lookup m).isNone
    | _ => false
  | _ => false
def acMet (sl : Bool) (c : Nat) (m : Str) (f : FnD) (n : Nat) (A : Ac) (L : AcL) : Ac := fun s h => (A s h).bind fun d h1 => if metB sl h1 c m d = true then (L s h1).bind fun ds h2 => if ds.length = n then callM f (d :: ds) h2 else .no else .no
def MetK (K : PySem.W.Frag) (C : Addr) (sl : Bool) : Prop := if sl = true then SlX.SCls K C else Cls K C
theorem RDf.none {G : GI} {ρ : AM} {m : Nat} {F : Hp} {f : Str} {fs : List (Str × D)} {vs : List (Str × V)} (h : RDf G ρ m F fs vs) (e : fs.lookup f = Option.none) : vs.lookup f = Option.none := by
  induction h with
  | nil => rfl
  | @cons k d v ds vs a b ih =>
    rw [List.lookup_cons] at e ⊢
    cases hk : f == k with
    | true => rw [hk] at e; cases e
    | false => rw [hk] at e; exact ih e
section
variable {X : Cx} {G : GI} {W : WX} {o e : Expr} {es : List Expr} {A : Ac} {L : AcL} {m : Str} {pos apos : Pos} {f : FnD} {n k c : Nat} {fa : Addr} {pl : Sem Bool} {sl : Bool}
theorem met_get {pins : List (Addr × Obj)} {σ : L2.St} {H : Hp} {s : Shared} {ρ : AM} {h : List O} {F R : Hp} {d : D} {v : V} {u : Value} (hk : MetK X.K (G.clA c) sl)
    (hm : Meth X.K (G.clA c) m fa) (I : Inv X pins σ H s) (r : Rel G ρ h F R H) (q : RD G ρ h.length F d v) (ru : RelV v u) (e : metB sl h c m d = true) {Q : Value × List Value → Shared → Prop} (hq : ∀ a, v = .ref a → u = .ref a → Q (.ref fa, [.ref a]) s) :
    wpAny (model X.prog X.w) X.A (getMethod u m pl) Q X.xe s := by
  cases d with
  | obj c' fs =>
    have ec : sl = true ∧ c' = c := by simpa [metB] using e
    obtain ⟨es, ec⟩ := ec
    subst ec es
    cases q with
    | @obj a dx _ _ vs h1 h2 h3 =>
      obtain rfl : u = Value.ref a := ru
      exact SlX.getmethsl_ok I (.inr ⟨r.fr _ _ h1, r.fr _ _ h2⟩) (show SlX.SCls X.K _ from hk) hm (hq a rfl rfl)
  | loc n =>
    simp only [metB] at e
    cases q with
    | loc _ hn =>
      obtain rfl : u = Value.ref (ρ.ob n) := ru
      cases e0 : h[n]? with
      | none => rw [e0] at e; cases e
      | some ob =>
        rw [e0] at e
        cases ob with
        | ins c' fs =>
          have ec : sl = true ∧ c' = c := by simpa using e
          obtain ⟨es, ec⟩ := ec
          subst ec es
          obtain ⟨vs, h1, _⟩ := r.lv n _ e0
          exact SlX.getmethsl_ok I h1 (show SlX.SCls X.K _ from hk) hm (hq _ rfl rfl)
        | ind c' fs =>
          have ec : (sl = false ∧ c' = c) ∧ (fs.lookup m).isNone = true := by simpa using e
          obtain ⟨⟨es, ec⟩, hl⟩ := ec
          subst ec es
          obtain ⟨dx, vs, h1, h2⟩ := r.lv n _ e0
          exact getmeth_ok I h1 (show Cls X.K _ from hk) hm (h2.none (by simpa using hl)) (hq _ rfl rfl)
        | lst _ => cases e
        | dic _ => cases e
  | _ => cases e
theorem pe_metD (he : PE X o (rd G W A)) (hk : MetK X.K (G.clA c) sl) (hm : Meth X.K (G.clA c) m fa) (F : FnR X.prog X.w X.K X.mg X.base (CX X.prog X.w) k fa (spOf G f (n + 1))) (hr : Room k X.A) (tk : Takes X W) (ha : PA X (e :: es) (rdA G W L))
    (hst : starEach (e :: es) X.env = (false, eval e X.env) :: starEach es X.env) (hpl : (backTo pos (starEach es X.env)).any (·.1) = false)
    (ht : eval (.Call (.Attribute o m apos) (e :: es) [] pos) X.env = (do
      let ov ← eval o X.env
      standAt apos.atName
      let (f, first) ← holding [ov] (getMethod ov m pl)
      callWith pos f first (backTo pos (starEach (e :: es) X.env)) (backToKw pos (keywordEach [] X.env)))) :
    PE X (.Call (.Attribute o m apos) (e :: es) [] pos) (rd G W (acMet sl c m f n A L)) := by
  refine ⟨fun pins s σ H Q I hq => ?_⟩
  have hr1 : rd G W A σ H fun v H1 => ∃ ρ h F R d, Rel G ρ h F R H1 ∧ RD G ρ h.length F d v ∧ metB sl h c m d = true ∧ rdA G W L σ H1 fun ws H2 => spOf G f (n + 1) (v :: ws) H2 Q (fun c d H => W c d σ H) := by
    obtain ⟨ρ, s, h, F, R, r, sr, wp⟩ := hq
    refine step (L := LD G) r sr wp fun ρ1 h1 F1 d x H1 x1 r1 q1 wp1 => ?_
    split at wp1
    · rename_i hb
      refine ⟨ρ1, h1, F1, R, d, r1, q1, hb, ?_⟩
      refine step (L := LDs G) r1 (sr.mono x1) wp1 fun ρ2 h2 F2 ds vs H2 x2 r2 q2 wp2 => ?_
      split at wp2
      · rename_i hl
        exact call_of r2 (.cons (q1.mono x2) q2) (by simp [hl]) wp2.sig
      · exact wp2.elim
    · exact wp1.elim
  refine PySem.W.methodCall_KW (pl := pl) (thn (he.run pins s σ H _ I hr1) fun u s1 ⟨v, H1, I1, ru, ρ, h, F', R, d, r, q, hb, q1⟩ => ?_) ht
  refine met_get hk hm I1 r q ru hb fun a ev eu => ?_
  subst ev eu
  refine PySem.W.callWith_K (first := [.ref a]) (h₀ := X.base) I.ok.mod.kin hm.kp (thn (ha.run pos pins s1 σ H1 _ I1 q1) fun us s2 ⟨vs, H2, I2, r2, q2⟩ => ⟨I2.kIn, ?_⟩) hst hpl
  exact run_D (us := .ref a :: us) (vs := .ref a :: vs) F hr tk I2 (.cons rfl r2) q2
theorem pe_met0D (he : PE X o (rd G W A)) (hk : MetK X.K (G.clA c) sl) (hm : Meth X.K (G.clA c) m fa) (F : FnR X.prog X.w X.K X.mg X.base (CX X.prog X.w) k fa (spOf G f 1)) (hr : Room k X.A) (tk : Takes X W)
    (ht : eval (.Call (.Attribute o m apos) [] [] pos) X.env = (do
      let ov ← eval o X.env
      standAt apos.atName
      let (f, first) ← holding [ov] (getMethod ov m pl)
      callWith pos f first (backTo pos (starEach [] X.env)) (backToKw pos (keywordEach [] X.env)))) :
    PE X (.Call (.Attribute o m apos) [] [] pos) (rd G W (acMet sl c m f 0 A alNil)) := by
  refine ⟨fun pins s σ H Q I hq => ?_⟩
  have hr1 : rd G W A σ H fun v H1 => ∃ ρ h F R d, Rel G ρ h F R H1 ∧ RD G ρ h.length F d v ∧ metB sl h c m d = true ∧ spOf G f 1 [v] H1 Q (fun c d H => W c d σ H) := by
    obtain ⟨ρ, s, h, F, R, r, sr, wp⟩ := hq
    refine step (L := LD G) r sr wp fun ρ1 h1 F1 d x H1 x1 r1 q1 wp1 => ?_
    split at wp1
    · rename_i hb
      exact ⟨ρ1, h1, F1, R, d, r1, q1, hb, call_of r1 (.cons q1 .nil) rfl (Wp.sig (show Wp G (LD G) W R ρ1 h1.length F1 (callM f [d] h1) σ Q from wp1))⟩
    · exact wp1.elim
  refine PySem.W.methodCall_KW (pl := pl) (thn (he.run pins s σ H _ I hr1) fun u s1 ⟨v, H1, I1, ru, ρ, h, F', R, d, r, q, hb, q1⟩ => ?_) ht
  refine met_get hk hm I1 r q ru hb fun a ev eu => ?_
  subst ev eu
  exact PySem.W.callWith_K0 (first := [.ref a]) I1.kIn hm.kp (run_D (us := [.ref a]) (vs := [.ref a]) F hr tk I1 (.cons rfl .nil) q1)
end
structure OwnV where
  c : Nat
  len : Option FnD
  eq : Option FnD
def ownB (h : List O) (c : Nat) (d : D) : Bool := sltB h d && (clsOf h d == some c)
def lenO (o : OwnV) : PN := fun ds h => match ds with
  | [d] => if ownB h o.c d = true then match o.len with
      | some f => match callM f [d] h with
        | .ok (.int n) h' => if 0 ≤ n ∧ n < 2 ^ 63 then some (.int n, h') else none
        | _ => none
      | none => none
    else lenP [d] h
  | ds => lenP ds h
def eqO (o : OwnV) : P2 := fun d e h => if ownB h o.c d = true ∧ ownB h o.c e = true then match o.eq with
    | some f => match callM f [d, e] h with
      | .ok (.bl b) h' => some (.bl b, h')
      | _ => none
    | none => none
  else eqX d e h
def neO (o : OwnV) : P2 := fun d e h => if ownB h o.c d = true ∧ ownB h o.c e = true then match o.eq with
    | some f => match callM f [d, e] h with
      | .ok (.bl b) h' => some (.bl (!b), h')
      | _ => none
    | none => none
  else neX d e h
def isiO (o : OwnV) : PN := fun ds h => match ds with
  | [d, .cl c] => if ownB h o.c d = true ∧ c = o.c then some (.bl true, h) else none
  | ds => isiP ds h
structure OwnOk (X : Cx) (G : GI) (o : OwnV) : Prop where
  sc : SlX.SCls X.K (G.clA o.c)
  si : SlX.SIsi X.K (G.clA o.c)
  len : ∀ f, o.len = some f → ∃ g n, PySem.W.findIn X.K (.ref (G.clA o.c)) "__len__" = some (some (.ref g)) ∧ PySem.W.isFn X.K (.ref g) = true ∧ FnR X.prog X.w X.K X.mg X.base (CX X.prog X.w) n g (spOf G f 1) ∧ Room (n + 1) X.A
  eq : ∀ f, o.eq = some f → ∃ g n, PySem.W.findIn X.K (.ref (G.clA o.c)) "__eq__" = some (some (.ref g)) ∧ PySem.W.isFn X.K (.ref g) = true ∧ PySem.W.findIn X.K (.ref (G.clA o.c)) "__ne__" = some (some (.builtin "object.__ne__")) ∧
    FnR X.prog X.w X.K X.mg X.base (CX X.prog X.w) n g (spOf G f 2) ∧ Room (n + 1) X.A
section
variable {X : Cx} {G : GI} {o : OwnV}
theorem own_slt {ρ : AM} {h : List O} {F R H : Hp} {d : D} {v : V} {c : Nat} (r : Rel G ρ h F R H) (q : RD G ρ h.length F d v) (e : ownB h c d = true) : ∃ a dx vs, v = .ref a ∧ SlX.Slt H a (G.clA c) dx vs := by
  have e : sltB h d = true ∧ clsOf h d = some c := by simpa [ownB] using e
  obtain ⟨a, dx, vs, h1, h2, _⟩ := slt_rd r q e.2 fun n fs ed z => by
    have := e.1
    subst ed
    simp only [sltB, z] at this
    cases this
  exact ⟨a, dx, vs, h1, h2⟩
theorem noX {P : Program} {w : World} {st : List Env} {H : Hp} {s : Shared} {e : Value} {s' : Shared} (h : CX P w st H s (fun _ _ _ => False) e s') : False := by
  obtain ⟨_, _, _, _, _, _, _, _, _, _, _, _, z⟩ := h
  exact z
theorem run_in1 {pins : List (Addr × Obj)} {σ : L2.St} {H : Hp} {s : Shared} {Q : VK} {us : List Value} {vs : List V} {k : Nat} {f : Addr} {sp : Sp} (F : FnR X.prog X.w X.K X.mg X.base (CX X.prog X.w) k f sp) (hr : Room (k + 1) X.A) (I : Inv X pins σ H s) (r : Vals vs us)
    (h : sp vs H Q (fun _ _ _ => False)) {E' : Value → Shared → Prop} : wpAny (model X.prog X.w) X.A.in1 (call (.ref f) us) (EP X pins σ Q) E' s := by
  refine wpAny_call (codeAny_mono (F X.A.in1 X.stack s H us vs Q _ hr.in1 I.env0.in1 r h) fun r s' hq => ?_)
  cases r with
  | error e => exact (noX hq).elim
  | ok fl =>
    cases fl with
    | ret u => exact I.after hq
    | next => exact False.elim hq
    | brk => exact False.elim hq
    | cont => exact False.elim hq
theorem cr_lenO (hK : X.K = G.K) (ok : OwnOk X G o) : CallR X (.builtin "len") (runN G (lenO o)) := by
  intro pins s σ H xs us Q I rx hq
  obtain ⟨ρ, h, F, R, ds, r, q, wp⟩ := hq
  have els : Wp G (LD G) W0 R ρ h.length F (Res.of (lenP ds h)) [] Q → wpAny (model X.prog X.w) X.A (call (.builtin "len") us) (EP X pins σ Q) X.xe s := fun wp => cr_len hK pins s σ H xs us Q I rx ⟨ρ, h, F, R, ds, r, q, wp⟩
  match ds, q, wp, els with
  | [], q, wp, els => exact els wp
  | [d], q, wp, els =>
    cases q with
    | cons q1 q2 =>
      cases q2
      simp only [lenO] at wp
      split at wp
      case isFalse => exact els wp
      rename_i hb
      cases ef : o.len with
      | none => rw [ef] at wp; exact wp.elim
      | some f =>
        rw [ef] at wp
        simp only at wp
        obtain ⟨g, n, h1, h2, Fn, hr⟩ := ok.len f ef
        obtain ⟨a, dx, vs, ev, hsl⟩ := own_slt r q1 hb
        subst ev
        obtain ⟨u, rfl, ru⟩ := vals1 rx
        obtain rfl : u = Value.ref a := ru
        obtain ⟨sl, od, _, J, _⟩ := SlX.slt_inst I hsl
        cases ec : callM f [d] h with
        | no => rw [ec] at wp; exact wp.elim
        | ex _ _ _ => rw [ec] at wp; exact wp.elim
        | ok z h' =>
          rw [ec] at wp
          cases z with
          | int m =>
            simp only at wp
            by_cases hz : 0 ≤ m ∧ m < 2 ^ 63
            case neg => rw [if_neg hz] at wp; exact wp.elim
            rw [if_pos hz] at wp
            refine lo_len_own I.kIn J h1 h2 (thn (run_in1 (us := [.ref a]) (vs := [.ref a]) (Q := fun v H' => v = .int m ∧ Q v H') Fn hr I (.cons rfl .nil) (call_of r (.cons q1 .nil) rfl ?_)) fun u' s' hu => ?_)
            · rw [ec]
              intro ρ' F' v' H' x' r' q'
              cases q'
              exact ⟨rfl, wp ρ' F' _ H' x' r' (.int m)⟩
            · obtain ⟨v', H', I', rv, ev, qv⟩ := hu
              subst ev
              obtain ⟨t, rfl⟩ := rv
              exact ⟨m, t, rfl, hz.1, hz.2, .int m, H', I'.tok _, ⟨_, rfl⟩, qv⟩
          | _ => exact wp.elim
  | _ :: _ :: _, q, wp, els => exact els wp
theorem or_eqO (hK : X.K = G.K) (hu : X.A.units + 65 < cLine) (ok : OwnOk X G o) : OpR X (compareOp .Eq) (rop G (eqO o)) := by
  intro pins s σ H x y v u Q I rx ry h
  obtain ⟨ρ, h0, F, R, d, e, r, q1, q2, wp⟩ := h
  unfold eqO at wp
  split at wp
  case isFalse => exact or_eqX hK hu pins s σ H x y v u Q I rx ry ⟨ρ, h0, F, R, d, e, r, q1, q2, wp⟩
  rename_i hb
  cases ef : o.eq with
  | none => rw [ef] at wp; exact wp.elim
  | some f =>
    rw [ef] at wp
    simp only at wp
    obtain ⟨g, n, h1, h2, h3, Fn, hr⟩ := ok.eq f ef
    obtain ⟨a, dx, vs, ev, hsl⟩ := own_slt r q1 hb.1
    obtain ⟨b, dy, ws, ev2, hsl2⟩ := own_slt r q2 hb.2
    subst ev ev2
    refine SlX.op_own (op := .Eq) (C := G.clA o.c) (E := fun _ _ _ => False) (fun _ _ => rfl) h1 h2 Fn (hr.mono (Nat.le_succ n)) (fun _ _ _ _ _ _ _ hx => (noX hx).elim) pins s σ H _ _ v u Q I rx ry ⟨a, dx, vs, b, G.clA o.c, dy, ws, rfl, rfl, hsl, hsl2, by simp [PySem.W.notFirst], ?_⟩
    refine call_of r (.cons q1 (.cons q2 .nil)) rfl ?_
    cases ec : callM f [d, e] h0 with
    | no => rw [ec] at wp; exact wp.elim
    | ex _ _ _ => rw [ec] at wp; exact wp.elim
    | ok z h' =>
      rw [ec] at wp
      cases z with
      | bl k => exact wp
      | _ => exact wp.elim
theorem or_neO (hK : X.K = G.K) (hu : X.A.units + 65 < cLine) (ok : OwnOk X G o) : OpR X (compareOp .NotEq) (rop G (neO o)) := by
  intro pins s σ H x y v u Q I rx ry h
  obtain ⟨ρ, h0, F, R, d, e, r, q1, q2, wp⟩ := h
  unfold neO at wp
  split at wp
  case isFalse => exact or_neX hK hu pins s σ H x y v u Q I rx ry ⟨ρ, h0, F, R, d, e, r, q1, q2, wp⟩
  rename_i hb
  cases ef : o.eq with
  | none => rw [ef] at wp; exact wp.elim
  | some f =>
    rw [ef] at wp
    simp only at wp
    obtain ⟨g, n, h1, h2, h3, Fn, hr⟩ := ok.eq f ef
    obtain ⟨a, dx, vs, ev, hsl⟩ := own_slt r q1 hb.1
    obtain ⟨b, dy, ws, ev2, hsl2⟩ := own_slt r q2 hb.2
    subst ev ev2
    obtain rfl : v = Value.ref a := rx
    obtain rfl : u = Value.ref b := ry
    obtain ⟨sl, od, _, J, _⟩ := SlX.slt_inst I hsl
    obtain ⟨sl', od', _, J', _⟩ := SlX.slt_inst I hsl2
    cases ec : callM f [d, e] h0 with
    | no => rw [ec] at wp; exact wp.elim
    | ex _ _ _ => rw [ec] at wp; exact wp.elim
    | ok z h' =>
      rw [ec] at wp
      cases z with
      | bl k =>
        refine lo_ne_own I.kIn J J'.type h3 h1 h2 ok.si.cm (by omega) (thn (run_in1 (us := [.ref a, .ref b]) (vs := [.ref a, .ref b]) (Q := fun v H' => v = .bl k ∧ Q (.bl (!k)) H') Fn hr I (.cons rfl (.cons rfl .nil)) (call_of r (.cons q1 (.cons q2 .nil)) rfl ?_)) fun u' s' hu => ?_)
        · rw [ec]
          intro ρ' F' v' H' x' r' q'
          cases q'
          exact ⟨rfl, wp ρ' F' _ H' x' r' (.bl _)⟩
        · obtain ⟨v', H', I', rv, ev, qv⟩ := hu
          subst ev
          obtain rfl : u' = Value.bool k := rv
          exact ⟨k, rfl, .bl (!k), H', I', rfl, qv⟩
      | _ => exact wp.elim
theorem cr_isiO (hK : X.K = G.K) (ok : OwnOk X G o) : CallR X (.builtin "isinstance") (runN G (isiO o)) := by
  intro pins s σ H xs us Q I rx hq
  obtain ⟨ρ, h, F, R, ds, r, q, wp⟩ := hq
  have els : Wp G (LD G) W0 R ρ h.length F (Res.of (isiP ds h)) [] Q → wpAny (model X.prog X.w) X.A (call (.builtin "isinstance") us) (EP X pins σ Q) X.xe s := fun wp => cr_isi hK pins s σ H xs us Q I rx ⟨ρ, h, F, R, ds, r, q, wp⟩
  match ds, q, wp, els with
  | [], q, wp, els => exact els wp
  | [_], q, wp, els => exact els wp
  | [d, e], q, wp, els =>
    cases e <;> try exact els wp
    rename_i c
    obtain ⟨v, u, rfl, q1, q2⟩ := rds2 q
    cases q2
    simp only [isiO] at wp
    by_cases hb : ownB h o.c d = true ∧ c = o.c
    case neg => rw [if_neg hb] at wp; exact wp.elim
    rw [if_pos hb] at wp
    obtain ⟨hb, rfl⟩ := hb
    obtain ⟨a, dx, vs, ev, hsl⟩ := own_slt r q1 hb
    subst ev
    exact SlX.call_isiSl (.ref (G.clA o.c)) pins s σ H _ us Q I rx ⟨a, G.clA o.c, dx, vs, .ref (G.clA o.c), true, rfl, rfl, fun w hw => hw, hsl, ok.sc, ok.si, by simp [PySem.W.kitOne], wp_val r wp (.bl true)⟩
  | _ :: _ :: _ :: _, q, wp, els => 
    rename_i a b c d
    cases b <;> exact els wp
end
end Lo
namespace Lo
open PySem PySem.Spec PyProof.Rows L2
def noStar : Expr → Bool
  | .Starred .. => false
  | _ => true
theorem star_cons {a : Expr} {es : List Expr} {env : Env} (h : noStar a = true) : starEach (a :: es) env = (false, eval a env) :: starEach es env := by
  cases a <;> first | rfl | cases h
theorem star_any {es : List Expr} {env : Env} {pos : Pos} (h : es.all noStar = true) : (backTo pos (starEach es env)).any (·.1) = false := by
  induction es with
  | nil => rfl
  | cons a r ih =>
    simp only [List.all_cons, Bool.and_eq_true] at h
    rw [star_cons h.1]
    show (false || (backTo pos (starEach r env)).any (·.1)) = false
    rw [ih h.2]
    rfl
theorem star_all {es : List Expr} {env : Env} {pos : Pos} (h : es.all noStar = true) : (backTo pos (starEach es env)).all (fun x => !x.1) = true := by
  induction es with
  | nil => rfl
  | cons a r ih =>
    simp only [List.all_cons, Bool.and_eq_true] at h
    rw [star_cons h.1]
    show (!false && (backTo pos (starEach r env)).all (fun x => !x.1)) = true
    rw [ih h.2]
    rfl
def fewB (es : List Expr) : Bool := es.all noStar && decide (es.length < 29)
theorem few_of {es : List Expr} {env : Env} {pos : Pos} (h : fewB es = true) : ((backTo pos (starEach es env)).all (fun x => !x.1) && (backToKw pos (keywordEach [] env)).all (fun x => x.1.isSome)
      && decide (es.length + ([] : List Keyword).length + (if ([] : List Keyword).isEmpty then 0 else 1) < 30)) = true := by
  simp only [fewB, Bool.and_eq_true, decide_eq_true_eq] at h
  rw [star_all h.1]
  have : decide (es.length + ([] : List Keyword).length + (if ([] : List Keyword).isEmpty then 0 else 1) < 30) = true := by
    rw [decide_eq_true_eq]
    show es.length + 0 + 0 < 30
    omega
  rw [this]
  rfl
def plainT : Expr → Bool
  | .UnaryOp .Not _ _ => false
  | .BoolOp .. => false
  | .IfExp .. => false
  | .Compare .. => false
  | _ => true
theorem plain_test {e : Expr} {env : Env} (h : plainT e = true) : ∀ whole, isTrue e env whole = (do let v ← whole; standAt e.pos; holding [v] (truthy v)) := fun whole => by
  cases e <;> first | rfl | (cases h; done) | skip
  rename_i op a p
  cases op <;> first | rfl | cases h
def noSup : Expr → Bool
  | .Call (.Name id _) [] [] _ => id != "super"
  | _ => true
theorem base_of {o : Expr} {name : Str} {env : Env} (h : noSup o = true) : attributeBase o name env (eval o env) = eval o env := by
  by_cases hc : ∃ id p pos, o = .Call (.Name id p) [] [] pos
  · obtain ⟨id, p, pos, rfl⟩ := hc
    have h : (id != "super") = true := h
    unfold attributeBase
    simp [h]
  · unfold attributeBase
    split
    · rename_i id p pos
      exact absurd ⟨id, p, pos, rfl⟩ hc
    · rfl
theorem meth_eval {o : Expr} {m : Str} {apos pos : Pos} {es : List Expr} {env : Env} (hf : fewB es = true) (hl : (apos.endLine == pos.line) = true) (hb : attributeBase o m env (eval o env) = eval o env) :
    eval (.Call (.Attribute o m apos) es [] pos) env = (do
      let ov ← eval o env
      standAt apos.atName
      let (f, first) ← holding [ov] (getMethod ov m (do return (← importBound o env).getD true))
      callWith pos f first (backTo pos (starEach es env)) (backToKw pos (keywordEach [] env))) := by
  have few : methodCallForm (es.length + ([] : List Keyword).length) (backTo pos (starEach es env)) (backToKw pos (keywordEach [] env)) = true := few_of hf
  show (do
    let ov ← attributeBase o m env (eval o env)
    standAt apos.atName
    methodCall o m apos pos env ov (es.length + ([] : List Keyword).length) (backTo pos (starEach es env)) (backToKw pos (keywordEach [] env))) = _
  rw [hb]
  unfold methodCall
  rw [few]
  unfold calleeOf methodCallPos
  simp only [Bool.not_true, Bool.false_or, hl, if_true]
  rfl
def notSet : Expr → Bool
  | .Set .. => false
  | _ => true
theorem fold_of {e : Expr} {env : Env} (h : notSet e = true) : ∀ x, foldedSetIterable e env x = pure x := fun x => by
  cases e <;> first | rfl | cases h
def notComp : Expr → Bool
  | .ListComp .. => false
  | .SetComp .. => false
  | .DictComp .. => false
  | _ => true
theorem swaps_of {e : Expr} {t : Option Expr} {line : Nat} {env : Env} (h : notComp e = true) : swapsWith e t line env = pure false := by
  cases e <;> first | rfl | cases h
def notName : Expr → Bool
  | .Name .. => false
  | _ => true
theorem swaps_of2 {e t : Expr} {line : Nat} {env : Env} (h : notName t = true) : swapsWith e (some t) line env = pure false := by
  cases e <;> first | rfl | (cases t <;> first | rfl | cases h)
def notTup : Expr → Bool
  | .Tuple .. => false
  | _ => true
def notSeqT : Expr → Bool
  | .Tuple .. => false
  | .List .. => false
  | _ => true
theorem stores_of {t e : Expr} {env : Env} (h : (notSeqT t || notTup e) = true) : swappedStores [t] e env = pure none := by
  unfold swappedStores
  cases t <;> cases e <;> first | rfl | cases h
theorem each_one {t : Expr} {env : Env} (h : noStar t = true) : (assignEach [t] env).map (·.2) = [assign t env] := by
  cases t <;> first | rfl | cases h
theorem each_cons {t : Expr} {ts : List Expr} {env : Env} (h : noStar t = true) : assignEach (t :: ts) env = (false, assign t env) :: assignEach ts env := by
  cases t <;> first | rfl | cases h
def noSlice : Expr → Bool
  | .Slice .. => false
  | _ => true
theorem plain_ix {b : Expr} (h : noSlice b = true) : PlainIx b := fun o i => by
  cases b <;> first | rfl | cases h
theorem asg_sub {o i : Expr} {pos : Pos} {env : Env} (h : noSlice i = true) : ∀ v, assign (.Subscript o i pos) env v = (do
      let ov ← holding [v] (eval o env)
      let iv ← holding [v, ov] (eval i env)
      standAt pos
      holding [v, ov, iv] (setItem ov iv v)
      release [v, ov, iv] []) := fun v => by
  cases i <;> first | rfl | cases h
def visB (sc : Scope) (x : Str) : Bool := match sc.names.lookup x with
  | some .local => true
  | some .cell => true
  | some .free => true
  | _ => false
theorem vis_of {sc : Scope} {x : Str} (h : visB sc x = true) : Vis sc x := by
  unfold visB at h
  split at h
  · rename_i e; exact .inl e
  · rename_i e; exact .inr (.inl e)
  · rename_i e; exact .inr (.inr e)
  · cases h
def glB (sc : Scope) (x : Str) : Bool := match sc.names.lookup x with
  | some .globalImplicit => true
  | _ => false
theorem gl_of {sc : Scope} {x : Str} (h : glB sc x = true) : sc.names.lookup x = some .globalImplicit := by
  unfold glB at h
  split at h
  · assumption
  · cases h
def stB (sc : Scope) (fb : Str → Bool) (x : Str) : Bool := match sc.names.lookup x with
  | some .local => true
  | some .cell => fb x
  | _ => false
theorem st_of {sc : Scope} {fb : Str → Bool} {x : Str} (h : stB sc fb x = true) : Loc sc x ∧ (fb x = true ∨ sc.names.lookup x = some .local) := by
  unfold stB at h
  split at h
  · rename_i e; exact ⟨.inl e, .inr e⟩
  · rename_i e; exact ⟨.inr e, .inl h⟩
  · cases h
def ixB (N : List Str) (x : Str) : Option Nat := match N.findIdx? (· == x) with
  | some i => if N[i]? = some x then some i else none
  | none => none
theorem ix_of {N : List Str} {x : Str} {i : Nat} (h : ixB N x = some i) : N[i]? = some x := by
  unfold ixB at h
  split at h
  · split at h
    · rename_i e; cases h; exact e
    · cases h
  · cases h
def nameOk (x : Str) : Bool := !(x == ("__debug__" : Str)) && !(x == ("__classdict__" : Str)) && !(x == ("__name__" : Str))
theorem nameOk1 {x : Str} (h : nameOk x = true) : (x == ("__debug__" : Str)) = false := by simp [nameOk] at h; simpa using h.1.1
theorem nameOk2 {x : Str} (h : nameOk x = true) : (x == ("__classdict__" : Str)) = false := by simp [nameOk] at h; simpa using h.1.2
theorem nameOk3 {x : Str} (h : nameOk x = true) : x ≠ ("__name__" : Str) := by simp [nameOk] at h; simpa using h.2
end Lo
namespace Lo
open PySem PySem.Spec PyProof.Rows L2
def keysD : List D → Option (List Key)
  | [] => some []
  | d :: r => match keyD d, keysD r with
    | some k, some ks => some (k :: ks)
    | _, _ => none
def acDZ (lv : Bool) (A B : Ac) : Ac := fun s h => (A s h).bind fun d h1 => (B s h1).bind fun e h2 => match lstOf h2 d, lstOf h2 e with
  | some xs, some ys => match keysD xs with
    | some ks => if xs.length ≤ sizeLine then Res.of (some (mkD lv (dictOf [] (ks.zip ys)) h2)) else .no
    | none => .no
  | _, _ => .no
section
variable {X : Cx} {G : GI} {W : WX} {a b : Expr} {A B : Ac}
theorem rdk_zip {ρ : AM} {m : Nat} {F : Hp} : ∀ {ks : List Key} {ys : List D} {ws : List V}, RDs G ρ m F ys ws → RDk G ρ m F (ks.zip ys) (ks.zip ws)
  | [], ys, ws, q => .nil
  | k :: ks, [], _, q => by cases q; exact .nil
  | k :: ks, y :: ys, _, q => by cases q with | cons q1 q2 => exact .cons q1 (rdk_zip q2)
theorem merge_dict : ∀ {more : List (Key × D)} {ms : List (Key × V)} {kvs : List (Key × D)} {ks : List (Key × V)} {ρ : AM} {m : Nat} {F : Hp}, RDk G ρ m F more ms → RDk G ρ m F kvs ks → RDk G ρ m F (dictOf kvs more) (mergeK ks ms)
  | [], _, kvs, ks, ρ, m, F, h, g => by cases h; exact g
  | (k, d) :: r, _, kvs, ks, ρ, m, F, h, g => by
    cases h with
    | @cons _ _ v _ vs a b =>
      show RDk G ρ m F (dictOf (putD kvs k d) r) (mergeK (putK ks k v) vs)
      exact merge_dict b (g.put a)
theorem kv_zip : ∀ {ks : List Key} {ws : List V} {us : List Value}, Vals ws us → KV (ks.zip ws) (ks.zip us)
  | [], _, _, _ => .nil
  | k :: ks, [], _, q => by cases q; exact .nil
  | k :: ks, w :: ws, _, q => by
    cases q with
    | cons q1 q2 => exact .cons ⟨rfl, q1⟩ (kv_zip q2)
theorem keysD_rd {ρ : AM} {m : Nat} {F : Hp} : ∀ {xs : List D} {vs : List V} {ks : List Key}, keysD xs = some ks → RDs G ρ m F xs vs → vs = ks.map kV
  | [], _, ks, e, q => by cases q; simp [keysD] at e; subst e; rfl
  | d :: r, _, ks, e, q => by
    cases q with
    | cons q1 q2 =>
      simp only [keysD] at e
      cases e1 : keyD d with
      | none => rw [e1] at e; cases e
      | some k =>
        cases e2 : keysD r with
        | none => rw [e1, e2] at e; cases e
        | some ks' =>
          rw [e1, e2] at e
          cases e
          rw [keyD_rd e1 q1, keysD_rd e2 q2]
          rfl
theorem pe_dz (lv : Bool) {p p2 zp pos : Pos} (hK : X.K = G.K) (hc : X.calm = true) (hg : Gl X "dict") (hm : X.mg "dict" = none) (hg2 : Gl X "zip") (hm2 : X.mg "zip" = none) (ha : PE X a (rd G W A)) (hb : PE X b (rd G W B)) (na : noStar a = true) (nb : noStar b = true) :
    PE X (.Call (.Name "dict" p) [.Call (.Name "zip" p2) [a, b] [] zp] [] pos) (rd G W (acDZ lv A B)) := by
  refine ⟨fun pins s σ H Q I hq => ?_⟩
  have hr : rdA G W (alCons A (alCons B alNil)) σ H fun vs H1 => ∃ ρ h F R d e v w, Rel G ρ h F R H1 ∧ RD G ρ h.length F d v ∧ RD G ρ h.length F e w ∧ vs = [v, w] ∧ Wp G (LD G) W R ρ h.length F (match lstOf h d, lstOf h e with
      | some xs, some ys => match keysD xs with
        | some ks => if xs.length ≤ sizeLine then Res.of (some (mkD lv (dictOf [] (ks.zip ys)) h)) else .no
        | none => .no
      | _, _ => .no) σ Q := by
    obtain ⟨ρ, s, h, F, R, r, sr, wp⟩ := hq
    refine ⟨ρ, s, h, F, R, r, sr, ?_⟩
    unfold acDZ at wp
    simp only [alCons, alNil]
    cases e1 : A s h with
    | no => rw [e1] at wp; exact wp.elim
    | ex c fs h' => rw [e1] at wp; exact wp
    | ok d h1 =>
      rw [e1] at wp
      simp only [Res.bind] at wp ⊢
      cases e2 : B s h1 with
      | no => rw [e2] at wp; exact wp.elim
      | ex c fs h' => rw [e2] at wp; exact wp
      | ok e h2 =>
        rw [e2] at wp
        intro ρ1 F1 vs H1 x r1 q1
        match vs, q1 with
        | [v, w], .cons qa (.cons qb .nil) => exact ⟨ρ1, h2, F1, R, d, e, v, w, r1, qa, qb, rfl, Wp.rebase x wp⟩
  have hA : PA X [a, b] (rdA G W (alCons A (alCons B alNil))) := pa_consD ha (pa_consD hb pa_nilD (star_cons nb)) (star_cons na)
  refine Call_ (ld_blt I hg hm boot_dict (PyProof.Rows.callWith_type1 (args_cons (Call_ (ld_blt I hg2 hm2 PyProof.Rows.boot_zip (PyProof.Rows.callWith_type1 (thn (hA.run zp pins s σ H _ I hr) fun us s1 ⟨vs, H1, I1, r1, ρ, h, F, R, d, e, v, w, r, qa, qb, ev, wp⟩ => ?_) (star_cons na) (star_any (by simp [nb]))))) rfl) rfl rfl))
  subst ev
  obtain ⟨u1, u2, rfl, ru1, ru2⟩ := Vals.two r1
  cases el : lstOf h d with
  | none => rw [el] at wp; exact wp.elim
  | some xs =>
    cases el2 : lstOf h e with
    | none => rw [el, el2] at wp; exact wp.elim
    | some ys =>
      rw [el, el2] at wp
      simp only at wp
      cases ek : keysD xs with
      | none => rw [ek] at wp; exact wp.elim
      | some ks =>
        rw [ek] at wp
        simp only at wp
        by_cases hz : xs.length ≤ sizeLine
        case neg => rw [if_neg hz] at wp; exact wp.elim
        rw [if_pos hz] at wp
        obtain ⟨l1, vs1, rfl, hs1, q1⟩ := lst_sq r el qa
        obtain ⟨l2, vs2, rfl, hs2, q2⟩ := lst_sq r el2 qb
        obtain rfl : u1 = Value.ref l1 := ru1
        obtain rfl : u2 = Value.ref l2 := ru2
        rw [← hK] at hs1 hs2
        obtain ⟨its, rv, p1, _⟩ := I1.list hs1
        obtain ⟨its2, rv2, p2', _⟩ := I1.list hs2
        have evk := keysD_rd ek q1
        refine call_zip_2 p1.isList p2'.isList fun h' hz' hTI hTO h1 h2 hsz hk => args_nil ?_
        have I2 : Inv X pins σ H1 { s1 with heap := h' } := I1.kept (t' := s1.toks) hk
        have Z := PySem.W.ktu_apart s1.heap.objs.size l1 l2 p1.lt p2'.lt
        have hl1 : h'.IsList l1 its.toArray := p1.isList.at fun o e => hk _ o e
        have hl2 : h'.IsList l2 its2.toArray := p2'.isList.at fun o e => hk _ o e
        have P := PairArg.zip (prog := X.prog) (w := X.w) (s1.heap.objs.size + 4) (s1.heap.objs.size + 2) (s1.heap.objs.size + 3) s1.heap.objs.size (s1.heap.objs.size + 1) l1 l2 Z its.toArray its2.toArray
        have hkl : ks.length = its.length := by
          rw [← rv.length, evk, List.length_map]
        have hzl : (ks.zip its2).length = min its.toArray.size its2.toArray.size := by simp [List.length_zip, hkl]
        refine PySem.call_dict_pairs (s := { s1 with heap := h' }) (knd := mixKind X.prog X.w) (kvs := ks.zip its2) P (I1.ok.hd hc) ⟨hz', hTI, ⟨_, _, hTO⟩, h1, h2, hl1, hl2⟩ ⟨hzl, fun i key v hkv => ?_⟩ ?_ fun h2' tk hd' hk2 => ?_
        · obtain ⟨hk1, hv1⟩ := hkv
          obtain ⟨x, hx, rx⟩ := vals_at rv (j := i) (u := key) (by simpa using hk1)
          rw [evk, List.getElem?_map] at hx
          obtain ⟨k, hk3, rfl⟩ := Option.map_eq_some_iff.mp hx
          refine ⟨k, ?_, kV_is rx⟩
          rw [List.getElem?_zip_eq_some]
          exact ⟨hk3, by simpa using hv1⟩
        · have := rv.length
          have l1' := q1.length
          simp only [List.size_toArray]
          omega
        · have kv0 : KV (ks.zip vs2) (ks.zip its2) := kv_zip rv2
          have kvm := KV.merge kv0 (show KV ([] : List (Key × V)) ([] : List (Key × Value)) from .nil)
          have hbig : ((h'.objs.size : Addr) == sysModules) = false := by
            have := I2.big
            exact beq_eq_false_iff_ne.mpr (Nat.ne_of_gt this)
          have hlen : (mergeK [] (ks.zip vs2)).length ≤ sizeLine := by
            have h1 := length_mergeK (ks.zip vs2) []
            have h2 : (ks.zip vs2).length ≤ ks.length := by rw [List.length_zip]; exact Nat.min_le_left _ _
            have h3 := rv.length
            have h4 := q1.length
            simp only [List.length_nil] at h1
            omega
          have fp : ∀ b ∈ [s1.heap.objs.size + 4, s1.heap.objs.size + 3, s1.heap.objs.size, s1.heap.objs.size + 1], FpOk X pins H1 b := fun b hb => by
            have hle : s1.heap.objs.size ≤ b := by
              have e' : b = s1.heap.objs.size + 4 ∨ b = s1.heap.objs.size + 3 ∨ b = s1.heap.objs.size ∨ b = s1.heap.objs.size + 1 := by simpa using hb
              rcases e' with z | z | z | z <;> (rw [z]; first | exact Nat.le_refl _ | exact Nat.le_add_right _ _)
            exact I1.fpOk hle (I1.hok.fresh hle)
          have I3 := I2.turnedNew (t' := tk) (ch := [s1.heap.objs.size + 4, s1.heap.objs.size + 3, s1.heap.objs.size, s1.heap.objs.size + 1]) (h' := h2') (T := h'.objs.size) (ob := .dK (mergeK [] (ks.zip vs2))) (fun b o hb e => hk2 b o hb e) fp (Nat.le_refl _) (dk_new hlen hbig kvm hd')
          refine ⟨.ref h'.objs.size, _, I3, rfl, ?_⟩
          exact wp_mkD r wp (I2.hok.fresh (Nat.le_refl _)) (merge_dict (rdk_zip q2) .nil)
def lrD (lv : Bool) (a b : Int) (h : List O) : Res D := if -(2 ^ 62) ≤ a ∧ a < 2 ^ 62 ∧ -(2 ^ 62) ≤ b ∧ b < 2 ^ 62 ∧ (b - a).toNat ≤ 2 ^ 24 then Res.of (some (mkL lv (rngD a (b - a).toNat) h)) else .no
def acLR1 (lv : Bool) (A : Ac) : Ac := fun s h => (A s h).bind fun d h1 => match d with
  | .int j => lrD lv 0 j h1
  | _ => .no
def acLR2 (lv : Bool) (A B : Ac) : Ac := fun s h => (A s h).bind fun d h1 => (B s h1).bind fun e h2 => match d, e with
  | .int i, .int j => lrD lv i j h2
  | _, _ => .no
theorem rds_at {ρ : AM} {m : Nat} {F : Hp} : ∀ {xs : List D} {vs : List V}, xs.length = vs.length → (∀ (i : Nat) (d : D) (v : V), xs[i]? = some d → vs[i]? = some v → RD G ρ m F d v) → RDs G ρ m F xs vs
  | [], [], _, _ => .nil
  | [], _ :: _, h, _ => by simp at h
  | _ :: _, [], h, _ => by simp at h
  | x :: xs, v :: vs, h, f => .cons (f 0 x v rfl rfl) (rds_at (by simpa using h) fun i d w h1 h2 => f (i + 1) d w (by simpa using h1) (by simpa using h2))
theorem rds_rg {ρ : AM} {m : Nat} {F : Hp} (a b : Int) : RDs G ρ m F (rngD a (b - a).toNat) (rgV a b) := by
  refine rds_at (by rw [rng_len, rgV_length]) fun i d v h1 h2 => ?_
  have hi : i < (b - a).toNat := by
    have := (List.getElem?_eq_some_iff.mp h1).1
    rw [rng_len] at this; exact this
  rw [rng_get a _ i hi] at h1
  cases h1
  unfold rgV at h2
  rw [List.getElem?_map, List.getElem?_range hi] at h2
  cases h2
  exact .int _
theorem lr_of {lv : Bool} {ρ : AM} {h : List O} {F R H : Hp} {σ : L2.St} {Q : VK} {a b : Int} (r : Rel G ρ h F R H) (wp : Wp G (LD G) W R ρ h.length F (lrD lv a b h) σ Q) : RgOk a b ∧ ∀ q, H q = none → Q (.ref q) (upd H q (.lst (rgV a b))) := by
  unfold lrD at wp
  split at wp
  · rename_i hh
    exact ⟨hh, fun q hq => wp_mkL r wp hq (rds_rg a b)⟩
  · exact wp.elim
theorem pe_lr1 (lv : Bool) {p p2 rp pos : Pos} (hc : X.calm = true) (hg : Gl X "list") (hm : X.mg "list" = none) (hg2 : Gl X "range") (hm2 : X.mg "range" = none) (ha : PE X a (rd G W A)) (na : noStar a = true) :
    PE X (.Call (.Name "list" p) [.Call (.Name "range" p2) [a] [] rp] [] pos) (rd G W (acLR1 lv A)) :=
  (pe_listRg hc hg hm (prg_1 hg2 hm2 ha (star_cons na)) rfl).weakL fun σ H Q ⟨ρ, s, h, F, R, r, sr, wp⟩ => step (L := LD G) r sr wp fun ρ1 h1 F1 d v H1 x1 r1 q1 wp1 => by
    cases d with
    | int j => cases q1; exact ⟨j, rfl, lr_of r1 wp1⟩
    | _ => exact wp1.elim
theorem pe_lr2 (lv : Bool) {p p2 rp pos : Pos} (hc : X.calm = true) (hg : Gl X "list") (hm : X.mg "list" = none) (hg2 : Gl X "range") (hm2 : X.mg "range" = none) (ha : PE X a (rd G W A)) (hb : PE X b (rd G W B)) (na : noStar a = true) (nb : noStar b = true) :
    PE X (.Call (.Name "list" p) [.Call (.Name "range" p2) [a, b] [] rp] [] pos) (rd G W (acLR2 lv A B)) :=
  (pe_listRg hc hg hm (prg_2 hg2 hm2 ha hb (star_cons na) (star_cons nb) (star_any (by simp [nb]))) rfl).weakL fun σ H Q ⟨ρ, s, h, F, R, r, sr, wp⟩ => step (L := LD G) r sr wp fun ρ1 h1 F1 d v H1 x1 r1 q1 wp1 =>
    step (L := LD G) r1 (sr.mono x1) wp1 fun ρ2 h2 F2 e v2 H2 x2 r2 q2 wp2 => by
    cases d with
    | int i =>
      cases e with
      | int j => cases q1; cases q2; exact ⟨i, j, rfl, rfl, lr_of r2 wp2⟩
      | _ => exact wp2.elim
    | _ => exact wp2.elim
end
def dzOf (x : Str) (args : List Expr) : Option (Expr × Expr) := if x = "dict" then match args with
    | [.Call (.Name z _) [a, b] [] _] => if z = "zip" ∧ noStar a = true ∧ noStar b = true then some (a, b) else none
    | _ => none
  else none
def lrOf (x : Str) (args : List Expr) : Option (Expr × Option Expr) := if x = "list" then match args with
    | [.Call (.Name z _) [a] [] _] => if z = "range" ∧ noStar a = true then some (a, none) else none
    | [.Call (.Name z _) [a, b] [] _] => if z = "range" ∧ noStar a = true ∧ noStar b = true then some (a, some b) else none
    | _ => none
  else none
theorem dz_of {x : Str} {args : List Expr} {a b : Expr} (h : dzOf x args = some (a, b)) : x = "dict" ∧ noStar a = true ∧ noStar b = true ∧ ∃ p q, args = [.Call (.Name "zip" p) [a, b] [] q] := by
  unfold dzOf at h
  split at h
  · rename_i hx
    split at h
    · split at h
      · rename_i z p a' b' q hh
        cases h
        obtain ⟨rfl, h1, h2⟩ := hh
        exact ⟨hx, h1, h2, _, _, rfl⟩
      · cases h
    · cases h
  · cases h
theorem lr_args {x : Str} {args : List Expr} {a : Expr} {b : Option Expr} (h : lrOf x args = some (a, b)) : x = "list" ∧ noStar a = true ∧ ((b = none ∧ ∃ p q, args = [.Call (.Name "range" p) [a] [] q]) ∨ ∃ b', b = some b' ∧ noStar b' = true ∧ ∃ p q, args = [.Call (.Name "range" p) [a, b'] [] q]) := by
  unfold lrOf at h
  split at h
  · rename_i hx
    split at h
    · split at h
      · rename_i hh
        cases h
        obtain ⟨rfl, h1⟩ := hh
        exact ⟨hx, h1, .inl ⟨rfl, _, _, rfl⟩⟩
      · cases h
    · split at h
      · rename_i hh
        cases h
        obtain ⟨rfl, h1, h2⟩ := hh
        exact ⟨hx, h1, .inr ⟨_, rfl, h2, _, _, rfl⟩⟩
      · cases h
    · cases h
  · cases h
end Lo
namespace Lo
open PySem PySem.Spec PyProof.Rows L2
def ddI : List Int → List Int
  | [] => []
  | x :: r => if x ∈ r then ddI r else x :: ddI r
theorem ddI_mem : ∀ {ns : List Int} {k : Int}, k ∈ ddI ns ↔ k ∈ ns
  | [], k => by simp [ddI]
  | x :: r, k => by
    simp only [ddI]
    split
    · rename_i h
      rw [ddI_mem]
      constructor
      · exact List.mem_cons_of_mem _
      · intro z
        rcases List.mem_cons.mp z with rfl | z
        · exact h
        · exact z
    · rw [List.mem_cons, List.mem_cons, ddI_mem]
theorem ddI_nodup : ∀ ns : List Int, (ddI ns).Nodup
  | [] => List.nodup_nil
  | x :: r => by
    simp only [ddI]
    split
    · exact ddI_nodup r
    · rename_i h
      rw [List.nodup_cons]
      exact ⟨fun z => h (ddI_mem.mp z), ddI_nodup r⟩
theorem nodup_len : ∀ {a b : List Int}, a.Nodup → (∀ k, k ∈ a → k ∈ b) → a.length ≤ b.length
  | [], b, _, _ => Nat.zero_le _
  | x :: r, b, hn, hs => by
    rw [List.nodup_cons] at hn
    have hx : x ∈ b := hs x List.mem_cons_self
    have := nodup_len (a := r) (b := b.erase x) hn.2 fun k hk => (List.mem_erase_of_ne (fun e => hn.1 (by rw [← e]; exact hk))).mpr (hs k (List.mem_cons_of_mem _ hk))
    rw [List.length_erase_of_mem hx] at this
    have : 1 ≤ b.length := List.length_pos_of_mem hx
    simp only [List.length_cons]; omega
theorem same_len {a b : List Int} (ha : a.Nodup) (hb : b.Nodup) (h : ∀ k, k ∈ a ↔ k ∈ b) : a.length = b.length :=
  Nat.le_antisymm (nodup_len ha fun k hk => (h k).mp hk) (nodup_len hb fun k hk => (h k).mpr hk)
def acLS (A : Ac) : Ac := fun s h => (A s h).bind fun d h1 => match d with
  | .tup xs => match ints? xs with
    | some ns => if ns.length < 64 then .ok (.int (ddI ns).length) h1 else .no
    | none => .no
  | _ => .no
section
variable {X : Cx} {G : GI} {W : WX}
def tLenSetT (K : PySem.W.Frag) (ta : TE) : TE := fun σ H Q => ta σ H fun x H1 => ∃ (l : Addr) (ns : List Int), x = V.ref l ∧ SqT K H1 l (ns.map V.int) ∧ ns.length < 64 ∧ Q (.int (ddI ns).length) H1
theorem pe_lenSetT {a : Expr} {ta : TE} {p p2 q pos : Pos} (hc : X.calm = true) (hg : Gl X "len") (hm : X.mg "len" = none) (hg2 : Gl X "set") (hm2 : X.mg "set" = none) (ha : PE X a ta)
    (na : starEach [a] X.env = (false, eval a X.env) :: starEach [] X.env := by rfl) : PE X (.Call (.Name "len" p) [.Call (.Name "set" p2) [a] [] q] [] pos) (tLenSetT X.K ta) := by
  refine ⟨fun pins s σ H Q I h => ?_⟩
  refine Call_ (ld_blt I hg hm PySem.boot_len ?_)
  refine PyProof.Rows.callWith_builtin1 (PyProof.Rows.args_cons ?_ rfl) rfl rfl
  refine Call_ (ld_blt I hg2 hm2 PyProof.Rows.boot_set ?_)
  refine PyProof.Rows.callWith_type1 (PyProof.Rows.args_cons (thn (ha.run pins s σ H _ I h) fun v s1 ⟨x, H1, I1, r1, q1⟩ => PyProof.Rows.args_nil ?_) na) na rfl
  obtain ⟨l, ns, rfl, hq, h1, q1⟩ := q1
  cases r1
  obtain ⟨its, r, pl, hz⟩ := I1.tuple hq
  refine call_set_tupI ns (I1.ok.hd hc) pl (by simpa using r.ints) (by unfold scanBound; omega) fun h' tk c hS hcn hk => ?_
  refine PyProof.Rows.args_nil ?_
  obtain ⟨o, es, ep, t, ho, hex, hd, _, hnd, hmem, _, hf, hn, _⟩ := hS
  have ec : c = (ddI ns).length := by
    rw [← hn, ← Array.length_toList, ← List.length_map (f := keyOf)]
    refine same_len hnd (ddI_nodup ns) fun k => ?_
    rw [← hmem k, ddI_mem, decide_eq_true_eq]
  have I2 : Inv X pins σ H1 { s1 with heap := h', toks := tk } := I1.kept fun b o e => hk b o e
  refine call_len_set ho hex hd hf (by rw [hn]; omega) ⟨.int (ddI ns).length, H1, I2.tok _, ⟨_, by rw [hn, ec]⟩, q1⟩
theorem pe_lsD {a : Expr} {A : Ac} {p p2 q pos : Pos} (hK : X.K = G.K) (hc : X.calm = true) (hg : Gl X "len") (hm : X.mg "len" = none) (hg2 : Gl X "set") (hm2 : X.mg "set" = none) (ha : PE X a (rd G W A)) (na : noStar a = true) :
    PE X (.Call (.Name "len" p) [.Call (.Name "set" p2) [a] [] q] [] pos) (rd G W (acLS A)) :=
  (pe_lenSetT hc hg hm hg2 hm2 ha (star_cons na)).weakL fun σ H Q ⟨ρ, s, h, F, R, r, sr, wp⟩ => step (L := LD G) r sr wp fun ρ1 h1 F1 d v H1 x1 r1 q1 wp1 => by
    cases d with
    | tup xs =>
      simp only at wp1
      cases e1 : ints? xs with
      | none => rw [e1] at wp1; exact wp1.elim
      | some ns =>
        rw [e1] at wp1
        simp only at wp1
        by_cases hn : ns.length < 64
        · rw [if_pos hn] at wp1
          cases q1 with
          | tup t1 t2 =>
            have ev := ints_rd e1 t2
            subst ev
            exact ⟨_, ns, rfl, by rw [hK]; exact (r1.fr.tupAt t1).sq, hn, wp_val r1 wp1 (.int _)⟩
        · rw [if_neg hn] at wp1; exact wp1.elim
    | _ => exact wp1.elim
end
def lsOf (x : Str) (args : List Expr) : Option Expr := if x = "len" then match args with
    | [.Call (.Name z _) [a] [] _] => if z = "set" ∧ noStar a = true then some a else none
    | _ => none
  else none
theorem ls_of {x : Str} {args : List Expr} {a : Expr} (h : lsOf x args = some a) : x = "len" ∧ noStar a = true ∧ ∃ p q, args = [.Call (.Name "set" p) [a] [] q] := by
  unfold lsOf at h
  split at h
  · rename_i hx
    split at h
    · split at h
      · rename_i hz
        cases h
        exact ⟨hx, hz.2, _, _, by rw [hz.1]⟩
      · cases h
    · cases h
  · cases h
end Lo
namespace Lo
open PySem PySem.Spec PyProof.Rows L2
def acPs : List (Ac × Ac) → Sl → List O → Res (List (Key × D))
  | [], _, h => .ok [] h
  | (K, V) :: r, s, h => (K s h).bind fun d h1 => (V s h1).bind fun e h2 => (acPs r s h2).bind fun ps h3 => match keyD d with
    | some k => .ok ((k, e) :: ps) h3
    | none => .no
def acDsp (lv : Bool) (ps : List (Ac × Ac)) : Ac := fun s h => (acPs ps s h).bind fun kvs h1 => if kvs.length ≤ 15 then Res.of (some (mkD lv (dictOf [] kvs) h1)) else .no
section
variable {X : Cx} {G : GI} {W : WX}
def LK (G : GI) : (ρ : AM) → (m : Nat) → (F : Hp) → List (Key × D) → List (V × V) → Prop := fun ρ m F kvs vs => ∃ ks : List (Key × V), vs = ks.map (fun kv => (kV kv.1, kv.2)) ∧ RDk G ρ m F kvs ks
theorem pairs_of {R : Hp} : ∀ (ps : List (Ac × Ac)) {ρ : AM} {s : Sl} {h : List O} {F H : Hp} {σ : L2.St} {Q : List (V × V) → Hp → Prop}, Rel G ρ h F R H → SRel G ρ h.length F s σ → Wp G (LK G) W R ρ h.length F (acPs ps s h) σ Q →
    tPairs (ps.map fun p => (rd G W p.1, rd G W p.2)) σ H Q
  | [], ρ, s, h, F, H, σ, Q, r, sr, wp => wp ρ F [] H (Ext.refl _ _ _) r ⟨[], rfl, .nil⟩
  | (K, V) :: rest, ρ, s, h, F, H, σ, Q, r, sr, wp => by
    refine step (L := LD G) r sr wp fun ρ1 h1 F1 d v H1 x1 r1 q1 wp1 => ?_
    refine step (L := LD G) r1 (sr.mono x1) wp1 fun ρ2 h2 F2 e w H2 x2 r2 q2 wp2 => ?_
    refine pairs_of rest r2 ((sr.mono x1).mono x2) ?_
    cases ea : acPs rest s h2 with
    | no => rw [ea] at wp2; exact wp2
    | ex c fs h3 => rw [ea] at wp2; exact wp2
    | ok kvs h3 =>
      rw [ea] at wp2
      simp only [Res.bind] at wp2
      cases ek : keyD d with
      | none => rw [ek] at wp2; exact wp2.elim
      | some k =>
        rw [ek] at wp2
        intro ρ' F' vs H' x' r' ⟨ks, evs, qk⟩
        refine wp2 ρ' F' _ H' x' r' ⟨(k, w) :: ks, ?_, .cons (q2.mono x') qk⟩
        rw [List.map_cons, ← evs, keyD_rd ek q1]
theorem Rel.less {ρ : AM} {h : List O} {F R H : Hp} {p : Addr} {o : HO} (r : Rel G ρ h F (upd R p o) H) (hr : R p = none) : Rel G ρ h F R H := by
  have up : ∀ a u, R a = some u → upd R p o a = some u := fun a u e => by
    by_cases ha : a = p
    · rw [ha, hr] at e; cases e
    · rw [upd_ne ha]; exact e
  have dn : ∀ a, upd R p o a = none → R a = none := fun a e => by
    by_cases ha : a = p
    · rw [ha]; exact hr
    · rwa [upd_ne ha] at e
  refine ⟨r.fr, fun a u e => r.rs a u (up a u e), fun a u e => dn a (r.fR a u e), fun n u q => ?_, r.inj, r.dinj, r.lF, fun n hn => dn _ (r.lR n hn), r.lH, ⟨r.tb.at_, r.tb.nF, fun t ht => dn _ (r.tb.nR t ht), r.tb.nL⟩⟩
  have := r.lv n u q
  cases u with
  | ins c fs =>
    obtain ⟨vs, h1, h2, h3, h4, h5, h7⟩ := this
    exact ⟨vs, h1, h2, h3, dn _ h4, h5, h7⟩
  | lst _ => exact this
  | dic _ => exact this
  | ind _ _ => exact this
theorem disp_of {lv : Bool} {ps : List (Ac × Ac)} {σ : L2.St} {H : Hp} {Q : VK} (h : rd G W (acDsp lv ps) σ H Q) : tDisp (ps.map fun p => (rd G W p.1, rd G W p.2)) σ H Q := by
  obtain ⟨ρ, s, h, F, R, r, sr, wp⟩ := h
  intro p hp
  have hrp := r.rnone hp
  have r1 : Rel G ρ h F (upd R p (.dK [])) (upd H p (.dK [])) := r.pin hp
  refine pairs_of ps r1 sr ?_
  have wp : Wp G (LD G) W R ρ h.length F ((acPs ps s h).bind fun kvs h1 => if kvs.length ≤ 15 then Res.of (some (mkD lv (dictOf [] kvs) h1)) else .no) σ Q := wp
  cases ea : acPs ps s h with
  | no => rw [ea] at wp; exact wp
  | ex c fs h1 =>
    rw [ea] at wp
    exact fun ρ' F' cls dd H' x' r' q => wp ρ' F' cls dd H' x' (r'.less hrp) q
  | ok kvs h1 =>
    rw [ea] at wp
    simp only [Res.bind] at wp
    intro ρ' F' vs H' x' r' ⟨ks, evs, qk⟩
    have hp' : H' p = some (.dK []) := r'.rs p _ upd_same
    refine ⟨hp', ks, evs, ?_⟩
    by_cases hl : kvs.length ≤ 15
    · rw [if_pos hl] at wp
      refine ⟨by rw [← qk.length]; exact hl, ?_⟩
      have r2 := r'.unpin hrp
      have := wp_mkD r2 (Wp.rebase x' wp) era_same (merge_dict qk .nil)
      rwa [upd_era] at this
    · rw [if_neg hl] at wp; exact wp.elim
theorem pe_dspD (lv : Bool) {pos : Pos} {keys : List (Option Expr)} {values : List Expr} {ps : List (Ac × Ac)} (h : PPs X pos keys values (ps.map fun p => (rd G W p.1, rd G W p.2))) (hall : keys.all (·.isSome) = true) (hl : keys.length = values.length) (h0 : keys ≠ []) (h15 : keys.length ≤ 15) :
    PE X (.Dict keys values pos) (rd G W (acDsp lv ps)) := (pe_disp h hall hl h0 h15).weakL fun _ _ _ => disp_of
end
end Lo
namespace Lo
open PySem PySem.Spec PyProof.Rows L2
def acFm (A : Ac) : Ac := fun s h => (A s h).bind fun d h1 => match d with
  | .str y => if y.length ≤ sizeLine then .ok (.str y) h1 else .no
  | .int i => if i.natAbs.log2 < 1920 then .ok (.str (toString i)) h1 else .no
  | _ => .no
def acJs : List Ac → Str → Ac
  | [], acc, _, h => .ok (.str acc) h
  | A :: r, acc, s, h => (A s h).bind fun d h1 => match d with
    | .str y => if (acc ++ y).length ≤ sizeLine then acJs r (acc ++ y) s h1 else .no
    | _ => .no
section
variable {X : Cx} {G : GI} {W : WX} {e : Expr} {pos : Pos} {A : Ac}
theorem pe_fmD (he : PE X e (rd G W A)) : PE X (.FormattedValue e (-1) none pos) (rd G W (acFm A)) :=
  (pe_fmt he).weakL fun σ H Q ⟨ρ, s, h, F, R, r, sr, wp⟩ => step (L := LD G) r sr wp fun ρ1 h1 F1 d v H1 x1 r1 q1 wp1 => by
    cases d with
    | str y =>
      cases q1
      simp only at wp1
      by_cases hy : y.length ≤ sizeLine
      · rw [if_pos hy] at wp1
        exact .inl ⟨y, rfl, hy, wp_val r1 wp1 (.str _)⟩
      · rw [if_neg hy] at wp1; exact wp1.elim
    | int i =>
      cases q1
      simp only at wp1
      by_cases hy : i.natAbs.log2 < 1920
      · rw [if_pos hy] at wp1
        exact .inr ⟨i, rfl, hy, wp_val r1 wp1 (.str _)⟩
      · rw [if_neg hy] at wp1; exact wp1.elim
    | _ => exact wp1.elim
theorem js_of {R : Hp} : ∀ (As : List Ac) (acc : Str) {ρ : AM} {s : Sl} {h : List O} {F H : Hp} {σ : L2.St} {Q : VK}, Rel G ρ h F R H → SRel G ρ h.length F s σ → Wp G (LD G) W R ρ h.length F (acJs As acc s h) σ Q →
    tJs (As.map fun A => rd G W A) acc σ H fun out H1 => Q (.str out) H1
  | [], acc, ρ, s, h, F, H, σ, Q, r, sr, wp => wp ρ F _ H (Ext.refl _ _ _) r (.str acc)
  | A :: rest, acc, ρ, s, h, F, H, σ, Q, r, sr, wp => by
    refine step (L := LD G) r sr wp fun ρ1 h1 F1 d v H1 x1 r1 q1 wp1 => ?_
    cases d with
    | str y =>
      cases q1
      simp only at wp1
      by_cases hy : (acc ++ y).length ≤ sizeLine
      · rw [if_pos hy] at wp1
        exact ⟨y, rfl, hy, js_of rest (acc ++ y) r1 (sr.mono x1) wp1⟩
      · rw [if_neg hy] at wp1; exact wp1.elim
    | _ => exact wp1.elim
theorem pe_jsD {v1 v2 : Expr} {rest : List Expr} {As : List Ac} (h : PJ X (v1 :: v2 :: rest) (As.map fun A => rd G W A)) : PE X (.JoinedStr (v1 :: v2 :: rest) pos) (rd G W (acJs As Str.empty)) :=
  (pe_joined h).weakL fun σ H Q ⟨ρ, s, h, F, R, r, sr, wp⟩ => js_of As Str.empty r sr wp
end
end Lo
namespace Lo
open PySem PySem.Spec PyProof.Rows L2
def wdP (l : List (Str × D)) : P1 := fun d h => match d with
  | .str z => (l.lookup z).map fun v => (v, h)
  | _ => none
def acWd (l : List (Str × D)) (B : Ac) : Ac := ac1 (wdP l) B
def wdOf (wd : List (Str × List (Str × D))) : Expr → Option (Str × List (Str × D))
  | .Name x _ => (wd.lookup x).map fun l => (x, l)
  | _ => none
theorem wdOf_ok {wd : List (Str × List (Str × D))} {e : Expr} {x : Str} {l : List (Str × D)} (h : wdOf wd e = some (x, l)) : ∃ p, e = .Name x p ∧ wd.lookup x = some l := by
  unfold wdOf at h
  split at h
  · rename_i y p
    obtain ⟨l', h1, h2⟩ := Option.map_eq_some_iff.mp h
    cases h2
    exact ⟨p, rfl, h1⟩
  · cases h
def WdOk (X : Cx) (G : GI) (x : Str) (l : List (Str × D)) : Prop := ∃ a, X.mg x = some (.ref a) ∧ ∀ z d, l.lookup z = some d → ∃ v, KDct X.K X.w a z v ∧ ∀ ρ m F, RD G ρ m F d v
section
variable {X : Cx} {G : GI} {W : WX} {b : Expr} {pos p : Pos} {B : Ac} {x : Str} {l : List (Str × D)}
theorem pe_wd (hg : Gl X x) (hw : WdOk X G x l) (h1 : (x == ("__debug__" : Str)) = false) (hb : PE X b (rd G W B)) (hs : PlainIx b) : PE X (.Subscript (.Name x p) b pos) (rd G W (acWd l B)) := by
  obtain ⟨a, hm, hv⟩ := hw
  refine (pe_ix ix_kdict (pe_glob (v := .ref a) hg hm rfl h1) hb hs).weakL fun σ H Q ⟨ρ, s, h, F, R, r, sr, wp⟩ => ?_
  refine step (L := LD G) r sr wp fun ρ1 h1 F1 d v H1 x1 r1 q1 wp1 => ?_
  cases d with
  | str z =>
    cases q1
    simp only [wdP] at wp1
    cases e : l.lookup z with
    | none => rw [e] at wp1; exact wp1.elim
    | some d =>
      rw [e] at wp1
      obtain ⟨v, k, rd⟩ := hv z d e
      exact ⟨a, z, v, rfl, rfl, k, wp_val r1 wp1 (rd _ _ _)⟩
  | _ => exact wp1.elim
end
end Lo
namespace Lo
open PySem PySem.Spec PyProof.Rows L2
mutual
def pureD : D → Bool
  | .non => true
  | .bl _ => true
  | .int _ => true
  | .str _ => true
  | .tup xs => pureDs xs
  | _ => false
def pureDs : List D → Bool
  | [] => true
  | d :: r => pureD d && pureDs r
end
mutual
def unP : PyData → D
  | .bool b => .bl b
  | .int i => .int i
  | .str x => .str x
  | .tuple xs => .tup (unPs xs)
  | _ => .non
def unPs : List PyData → List D
  | [] => []
  | x :: r => unP x :: unPs r
end
theorem unPs_map : ∀ xs : List PyData, unPs xs = xs.map unP
  | [] => by simp [unPs]
  | x :: r => by simp [unPs, unPs_map r]
theorem un_pds {h : List O} {n : Nat} (ih : ∀ d p, pureD d = true → pd h n d = some p → unP p = d) : ∀ {xs : List D} {ps : List PyData}, pureDs xs = true → xs.mapM (pd h n) = some ps → ps.map unP = xs
  | [], ps, _, e => by simp at e; subst e; rfl
  | d :: ds, ps, hp, e => by
    simp only [pureDs, Bool.and_eq_true] at hp
    rw [List.mapM_cons] at e
    cases e1 : pd h n d with
    | none => rw [e1] at e; simp at e
    | some p =>
      rw [e1] at e
      cases e2 : ds.mapM (pd h n) with
      | none => rw [e2] at e; simp at e
      | some qs =>
        rw [e2] at e
        simp at e
        subst e
        rw [List.map_cons, ih d p hp.1 e1, un_pds ih hp.2 e2]
theorem un_pd {h : List O} : ∀ (n : Nat) (d : D) (p : PyData), pureD d = true → pd h n d = some p → unP p = d
  | 0, d, p, _, e => by simp [pd] at e
  | n + 1, .non, p, _, e => by simp [pd] at e; subst e; rfl
  | n + 1, .bl b, p, _, e => by simp [pd] at e; subst e; rfl
  | n + 1, .int b, p, _, e => by simp [pd] at e; subst e; rfl
  | n + 1, .str b, p, _, e => by simp [pd] at e; subst e; rfl
  | n + 1, .tup xs, p, hp, e => by
    simp only [pd] at e
    obtain ⟨ps, e1, e2⟩ := Option.map_eq_some_iff.mp e
    subst e2
    simp only [unP]
    rw [unPs_map, un_pds (un_pd n) (by simpa [pureD] using hp) e1]
  | n + 1, .lst _, p, hp, _ => by simp [pureD] at hp
  | n + 1, .scr _, p, hp, _ => by simp [pureD] at hp
  | n + 1, .dic _, p, hp, _ => by simp [pureD] at hp
  | n + 1, .obj _ _, p, hp, _ => by simp [pureD] at hp
  | n + 1, .fn _, p, hp, _ => by simp [pureD] at hp
  | n + 1, .cl _, p, hp, _ => by simp [pureD] at hp
  | n + 1, .ty _, p, hp, _ => by simp [pureD] at hp
  | n + 1, .xn _ _, p, hp, _ => by simp [pureD] at hp
  | n + 1, .loc _, p, hp, _ => by simp [pureD] at hp
theorem pureDs_mem : ∀ {xs : List D} {d : D}, pureDs xs = true → d ∈ xs → pureD d = true
  | x :: r, d, h, hm => by
    simp only [pureDs, Bool.and_eq_true] at h
    rcases List.mem_cons.mp hm with rfl | hm
    · exact h.1
    · exact pureDs_mem h.2 hm
def alikeB (ps : List PyData) : Bool := (ps.all fun x => ps.all fun y => PySem.W.alike x y) && ps.all fun x => match x with | .none => false | _ => true
theorem alikeB_of {ps : List PyData} (h : alikeB ps = true) : PySem.W.AlikeAll ps := by
  simp only [alikeB, Bool.and_eq_true, List.all_eq_true] at h
  refine ⟨fun x hx y hy => h.1 x hx y hy, fun x hx e => ?_⟩
  have := h.2 x hx
  rw [e] at this
  cases this
def bestD (f : PyData → List PyData → PyData) (h : List O) (d : D) : Option D := match seqOf h d with
  | some xs => if pureDs xs = true then match xs.mapM (pd h 8) with
      | some (p :: ps) => if alikeB (p :: ps) = true then some (unP (f p ps)) else none
      | _ => none
    else none
  | none => none
def maxQ : PN := fun ds h => match maxP ds h with
  | some r => some r
  | none => match ds with
    | [d] => (bestD PySem.W.maxD h d).map fun x => (x, h)
    | _ => none
def minQ : PN := fun ds h => match minP ds h with
  | some r => some r
  | none => match ds with
    | [d] => (bestD PySem.W.minD h d).map fun x => (x, h)
    | _ => none
theorem pd_depths {h : List O} {n : Nat} (ih : ∀ d p, pd h n d = some p → p.depth ≤ n) : ∀ {xs : List D} {ps : List PyData}, xs.mapM (pd h n) = some ps → PyData.depthAll ps ≤ n
  | [], ps, e => by simp at e; subst e; simp [PyData.depthAll]
  | d :: ds, ps, e => by
    rw [List.mapM_cons] at e
    cases e1 : pd h n d with
    | none => rw [e1] at e; simp at e
    | some p =>
      rw [e1] at e
      cases e2 : ds.mapM (pd h n) with
      | none => rw [e2] at e; simp at e
      | some qs =>
        rw [e2] at e
        simp at e
        subst e
        simp only [PyData.depthAll]
        have := ih d p e1
        have := pd_depths ih e2
        omega
theorem pd_depth {h : List O} : ∀ (n : Nat) (d : D) (p : PyData), pd h n d = some p → p.depth ≤ n
  | 0, d, p, e => by simp [pd] at e
  | n + 1, .non, p, e => by simp [pd] at e; subst e; simp [PyData.depth]
  | n + 1, .bl b, p, e => by simp [pd] at e; subst e; simp [PyData.depth]
  | n + 1, .int b, p, e => by simp [pd] at e; subst e; simp [PyData.depth]
  | n + 1, .str b, p, e => by simp [pd] at e; subst e; simp [PyData.depth]
  | n + 1, .tup xs, p, e => by
    simp only [pd] at e
    obtain ⟨ps, e1, e2⟩ := Option.map_eq_some_iff.mp e
    subst e2
    have := pd_depths (pd_depth n) e1
    simp only [PyData.depth]; omega
  | n + 1, .lst xs, p, e => by
    simp only [pd] at e
    obtain ⟨ps, e1, e2⟩ := Option.map_eq_some_iff.mp e
    subst e2
    have := pd_depths (pd_depth n) e1
    simp only [PyData.depth]; omega
  | n + 1, .scr xs, p, e => by
    simp only [pd] at e
    obtain ⟨ps, e1, e2⟩ := Option.map_eq_some_iff.mp e
    subst e2
    have := pd_depths (pd_depth n) e1
    simp only [PyData.depth]; omega
  | n + 1, .loc k, p, e => by
    simp only [pd] at e
    split at e
    · obtain ⟨ps, e1, e2⟩ := Option.map_eq_some_iff.mp e
      subst e2
      have := pd_depths (pd_depth n) e1
      simp only [PyData.depth]; omega
    · cases e
  | n + 1, .dic _, p, e => by simp [pd] at e
  | n + 1, .obj _ _, p, e => by simp [pd] at e
  | n + 1, .fn _, p, e => by simp [pd] at e
  | n + 1, .cl _, p, e => by simp [pd] at e
  | n + 1, .ty _, p, e => by simp [pd] at e
  | n + 1, .xn _ _, p, e => by simp [pd] at e
def acRev (lv : Bool) (A : Ac) : Ac := fun s h => (A s h).bind fun d h1 => Res.of ((lstOf h1 d).map fun xs => mkL lv xs.reverse h1)
section
variable {X : Cx} {G : GI}
theorem RDs.snoc {ρ : AM} {m : Nat} {F : Hp} {xs : List D} {vs : List V} {d : D} {v : V} (q : RDs G ρ m F xs vs) (r : RD G ρ m F d v) : RDs G ρ m F (xs ++ [d]) (vs ++ [v]) := q.append (.cons r .nil)
theorem RDs.reverse {ρ : AM} {m : Nat} {F : Hp} : ∀ {xs : List D} {vs : List V}, RDs G ρ m F xs vs → RDs G ρ m F xs.reverse vs.reverse
  | [], _, .nil => .nil
  | d :: ds, _, .cons a b => by rw [List.reverse_cons, List.reverse_cons]; exact b.reverse.snoc a
theorem best_end {pins : List (Addr × Obj)} {s : Shared} {σ : L2.St} {H : Hp} {Q : VK} {ρ : AM} {h : List O} {F R : Hp} {xs : List D} {vs : List V} {its : List Value} {ps : List PyData} {as : List Addr} {z : PyData} {i : Nat} {v : Value} {h' : Heap} {tk : Nat} {bs : List Addr}
    (I : Inv X pins σ H s) (r : Rel G ρ h F R H) (rs : RDs G ρ h.length F xs vs) (rv : Vals vs its) (hp : pureDs xs = true) (e : xs.mapM (pd h 8) = some ps) (hr : ReadsAll s.heap its ps as)
    (hi : its.toArray[i]? = some v) (hz : Reads h' v z bs) (hk : ∀ b o, s.heap.get? b = some o → h'.get? b = some o) (wp : Wp G (LD G) W0 R ρ h.length F (.ok (unP z) h) [] Q) : EP X pins σ Q v { s with heap := h', toks := tk } := by
  have hil : its[i]? = some v := by simpa using hi
  have hl := PySem.SeqAt.ReadsAll.length ps its as hr
  have hml := mapM_len e
  have hip : i < ps.length := by rw [← hl]; exact (List.getElem?_eq_some_iff.mp hil).1
  obtain ⟨d, hd, hp2⟩ := mapM_get e (List.getElem?_eq_getElem hip)
  obtain ⟨v0, hv0, rd0⟩ := rs.get hd
  obtain ⟨u0, hu0, rv0⟩ := rv.get hv0
  rw [hil] at hu0
  cases hu0
  obtain ⟨cs, h1, _⟩ := PySem.W.readsAll_at hr i v hil
  have ep : ps.getD i .none = ps[i] := by rw [List.getD_eq_getElem?_getD, List.getElem?_eq_getElem hip]; rfl
  rw [ep] at h1
  have ez := (reads_det (fun b o e _ => hk b o e) h1 hz).1
  have hpd : pureD d = true := pureDs_mem hp (List.mem_of_getElem? hd)
  rw [ez, un_pd 8 d _ hpd hp2] at wp
  exact ⟨v0, H, I.kept hk, rv0, wp_val r wp rd0⟩
theorem best_parts {ρ : AM} {h : List O} {F R H : Hp} {d : D} {v : V} {f : PyData → List PyData → PyData} {z : D} (r : Rel G ρ h F R H) (q : RD G ρ h.length F d v) (e : bestD f h d = some z) :
    ∃ (xs : List D) (a : Addr) (vs : List V) (p : PyData) (ps : List PyData), v = .ref a ∧ (SqL G.K H a vs ∨ SqT G.K H a vs) ∧ RDs G ρ h.length F xs vs ∧ pureDs xs = true ∧ xs.mapM (pd h 8) = some (p :: ps) ∧ alikeB (p :: ps) = true ∧ z = unP (f p ps) := by
  unfold bestD at e
  cases e1 : seqOf h d with
  | none => rw [e1] at e; cases e
  | some xs =>
    rw [e1] at e
    simp only at e
    split at e
    · rename_i hp
      split at e
      · rename_i p ps e2
        split at e
        · rename_i ha
          cases e
          obtain ⟨a, vs, ev, hsq, rs⟩ := seq_sq r e1 q
          exact ⟨xs, a, vs, p, ps, ev, hsq, rs, hp, e2, ha, rfl⟩
        · cases e
      · cases e
    · cases e
theorem cr_minQ (hK : X.K = G.K) (hc : X.calm = true) (hu : X.A.units + 65 < cLine) : CallR X (.builtin "min") (runN G minQ) := by
  intro pins s σ H xs us Q I rx hq
  obtain ⟨ρ, h, F, R, ds, r, q, wp⟩ := hq
  unfold minQ at wp
  cases e0 : minP ds h with
  | some z => rw [e0] at wp; exact cr_minD hK hc pins s σ H xs us Q I rx ⟨ρ, h, F, R, ds, r, q, by rw [e0]; exact wp⟩
  | none =>
    rw [e0] at wp
    match ds, q, wp with
    | [], q, wp => exact wp.elim
    | _ :: _ :: _, q, wp => exact wp.elim
    | [d], q, wp =>
      obtain ⟨v, rfl, q1⟩ := rds1 q
      simp only at wp
      cases e : bestD PySem.W.minD h d with
      | none => rw [e] at wp; exact wp.elim
      | some z =>
        rw [e] at wp
        obtain ⟨xs, a, vs, p, ps, rfl, hsq, rs, hp, e2, ha, rfl⟩ := best_parts r q1 e
        obtain ⟨u, rfl, ru⟩ := vals1 rx
        obtain rfl : u = Value.ref a := ru
        have dpa : DpAll X.K H vs (p :: ps) := by rw [hK]; exact dpAll_of (dp_of r 8) e2 rs
        have hdep := pd_depths (pd_depth (h := h) 8) e2
        rw [← hK] at hsq
        rcases hsq with hsq | hsq
        · obtain ⟨its, rv, pl, hz⟩ := I.list hsq
          obtain ⟨as, hr⟩ := Dp.readsAll I _ vs its dpa rv
          exact PySem.W.min_list_data (I.ok.hd hc) pl.isList (by simpa using hr) (alikeB_of ha) (by omega) fun i v' h' tk bs hi hz' hk => best_end I r rs rv hp e2 hr hi hz' hk wp
        · obtain ⟨its, rv, pl, hz⟩ := I.tuple hsq
          obtain ⟨as, hr⟩ := Dp.readsAll I _ vs its dpa rv
          exact PySem.W.min_tuple_data (I.ok.hd hc) pl (by simpa using hr) (alikeB_of ha) (by omega) fun i v' h' tk bs hi hz' hk => best_end I r rs rv hp e2 hr hi hz' hk wp
theorem cr_maxQ (hK : X.K = G.K) (hc : X.calm = true) (hu : X.A.units + 65 < cLine) : CallR X (.builtin "max") (runN G maxQ) := by
  intro pins s σ H xs us Q I rx hq
  obtain ⟨ρ, h, F, R, ds, r, q, wp⟩ := hq
  unfold maxQ at wp
  cases e0 : maxP ds h with
  | some z => rw [e0] at wp; exact cr_maxD hK hc pins s σ H xs us Q I rx ⟨ρ, h, F, R, ds, r, q, by rw [e0]; exact wp⟩
  | none =>
    rw [e0] at wp
    match ds, q, wp with
    | [], q, wp => exact wp.elim
    | _ :: _ :: _, q, wp => exact wp.elim
    | [d], q, wp =>
      obtain ⟨v, rfl, q1⟩ := rds1 q
      simp only at wp
      cases e : bestD PySem.W.maxD h d with
      | none => rw [e] at wp; exact wp.elim
      | some z =>
        rw [e] at wp
        obtain ⟨xs, a, vs, p, ps, rfl, hsq, rs, hp, e2, ha, rfl⟩ := best_parts r q1 e
        obtain ⟨u, rfl, ru⟩ := vals1 rx
        obtain rfl : u = Value.ref a := ru
        have dpa : DpAll X.K H vs (p :: ps) := by rw [hK]; exact dpAll_of (dp_of r 8) e2 rs
        have hdep := pd_depths (pd_depth (h := h) 8) e2
        rw [← hK] at hsq
        rcases hsq with hsq | hsq
        · obtain ⟨its, rv, pl, hz⟩ := I.list hsq
          obtain ⟨as, hr⟩ := Dp.readsAll I _ vs its dpa rv
          exact PySem.W.max_list_data (I.ok.hd hc) pl.isList (by simpa using hr) (alikeB_of ha) (by omega) fun i v' h' tk bs hi hz' hk => best_end I r rs rv hp e2 hr hi hz' hk wp
        · obtain ⟨its, rv, pl, hz⟩ := I.tuple hsq
          obtain ⟨as, hr⟩ := Dp.readsAll I _ vs its dpa rv
          exact PySem.W.max_tuple_data (I.ok.hd hc) pl (by simpa using hr) (alikeB_of ha) (by omega) fun i v' h' tk bs hi hz' hk => best_end I r rs rv hp e2 hr hi hz' hk wp
theorem pe_revD (lv : Bool) {W : WX} {e : Expr} {A : Ac} {k : Nat} {p1 p2 p3 pos : Pos} (hK : X.K = G.K) (he : PE X e (rd G W A)) : PE X (.Subscript e (.Slice none none (some (.UnaryOp .USub (.Constant (.int 1) k p1) p2)) p3) pos) (rd G W (acRev lv A)) :=
  (pe_revL he).weakL fun σ H Q ⟨ρ, s, h, F, R, r, sr, wp⟩ => step (L := LD G) r sr wp fun ρ1 h1 F1 d v H1 x1 r1 q1 wp1 => by
    cases e1 : lstOf h1 d with
    | none => rw [e1] at wp1; exact wp1.elim
    | some xs =>
      rw [e1] at wp1
      obtain ⟨a, vs, ev, hs, rs⟩ := lst_sq r1 e1 q1
      exact ⟨a, vs, ev, by rw [hK]; exact hs, fun p hp => wp_mkL r1 wp1 hp rs.reverse⟩
end
def revOf : Option Expr → Option Expr → Option Expr → Bool
  | none, none, some (.UnaryOp .USub (.Constant (.int 1) _ _) _) => true
  | _, _, _ => false
theorem rev_of {lo hi st : Option Expr} (h : revOf lo hi st = true) : lo = none ∧ hi = none ∧ ∃ k p1 p2, st = some (.UnaryOp .USub (.Constant (.int 1) k p1) p2) := by
  unfold revOf at h
  split at h
  · exact ⟨rfl, rfl, _, _, _, rfl⟩
  · cases h
end Lo
namespace Lo
open PySem PySem.Spec PyProof.Rows L2
abbrev Clz := Value × Option Nat × (Addr → Value → Option Addr → TS)
def sIn (i : Option Nat) (a : Addr) (σ : L2.St) : L2.St := match i with
  | some i => σ.set i (some (.ref a))
  | none => σ
def sOut (i : Option Nat) (σ : L2.St) : L2.St := match i with
  | some i => σ.set i none
  | none => σ
def eOut (i : Option Nat) (D : Ends) : Ends := { nx := fun σ H => D.nx (sOut i σ) H, rt := D.rt, bk := fun σ H => D.bk (sOut i σ) H, ct := fun σ H => D.ct (sOut i σ) H }
def wMix (K : PySem.W.Frag) (Wo : WX) (D : Ends) : List Clz → WX
  | [] => Wo
  | (c, i, ts) :: r => fun cls d σ H => ∃ b, PySem.W.exmOne K cls c = some b ∧ (b = true → ∀ a, H a = none → ts a cls d (eOut i D) (sIn i a σ) H) ∧ (b = false → wMix K Wo D r cls d σ H)
def NmOk (X : Cx) : Option Str → Option Nat → Prop
  | some n, some i => X.N[i]? = some n ∧ X.env.kindOf n = some .local
  | none, none => True
  | _, _ => False
inductive HdsX (X : Cx) : List ExceptHandler → List Clz → Prop
  | nil : HdsX X [] []
  | cons {x : Str} {c : Value} {n : Option Str} {i : Option Nat} {ts : Addr → Value → Option Addr → TS} {b₀ : Stmt} {suite : List Stmt} {np pos' : Pos} {hds : List ExceptHandler} {l : List Clz} (hc : Names X x c) (hn : NmOk X n i)
      (hsu : ∀ (a : Addr) (oe : Obj) (cls : Value) (d : Option Addr) (pn : List (Addr × Obj)), Zc cls d oe → (∃ vs, oe.data = .fields vs) → PSs (X.suite a ((a, oe) :: pn)) (b₀ :: suite) (ts a cls d)) (r : HdsX X hds l) :
      HdsX X (.ExceptHandler (some (.Name x np)) n (b₀ :: suite) pos' :: hds) ((c, i, ts) :: l)
section
variable {X : Cx} {body : List Stmt} {h₀ : ExceptHandler} {hds : List ExceptHandler} {l : List Clz} {pos : Pos} {tb : WX → TS} {Wo : WX}
theorem unTry {pins : List (Addr × Obj)} {xe : Value → Shared → Prop} {D : Ends} {f : Flow} {s : Shared} (ok : X.Ok) (h : SP (X.tr (X.pn ++ pins) xe) [] D f s) : SP X pins D f s := by
  cases f with
  | ret u => obtain ⟨v, σ, H, J, r, q⟩ := h; exact ⟨v, σ, H, J.ofTry ok, r, q⟩
  | next => obtain ⟨σ, H, J, q⟩ := h; exact ⟨σ, H, J.ofTry ok, q⟩
  | brk => obtain ⟨σ, H, J, q⟩ := h; exact ⟨σ, H, J.ofTry ok, q⟩
  | cont => obtain ⟨σ, H, J, q⟩ := h; exact ⟨σ, H, J.ofTry ok, q⟩
theorem ps_tryX (hN : X.N.Nodup) (hs : X.stack = X.env :: X.outer) (hf : X.env.frame = some X.env.locals) (tk : Takes X Wo)
    (hb : ∀ (W : WX) (pn : List (Addr × Obj)) (xe : Value → Shared → Prop), Takes (X.tr pn xe) W → PassesOwn (model X.prog X.w) X.A X.env xe → PSs (X.tr pn xe) body (tb W))
    (hh : HdsX X (h₀ :: hds) l) : PS X (.Try body (h₀ :: hds) [] [] pos) (fun D σ H => tb (wMix X.K Wo D l) D σ H) := by
  refine ⟨fun pins s σ H D I h => ?_⟩
  have ok := I.ok
  have frm : X.A.frames = some (X.env :: X.outer) := ok.frames.trans (by rw [hs])
  refine wpAny_Try_except ?_
  refine wpAny_mono ((hb (wMix X.K Wo D l) (X.pn ++ pins) (fun e s₁ => wpAny (model X.prog X.w) X.A (noteFrame e X.env) (fun _ s₂ => wpAny (model X.prog X.w) X.A (setFlight e none) (fun _ s₃ =>
    wpAny (model X.prog X.w) X.A (handleBy e X.env (h₀ :: hds)) (SP X pins D) X.xe s₃) X.xe s₂) X.xe s₁) (fun u s' xx => ?_) PassesOwn.looking).run [] s σ H D (I.toTry _) h) (fun f s1 hsp => ?_) (fun _ _ z => z)
  case refine_2 =>
    have z := unTry ok hsp
    cases f with
    | next => exact wpAny_execs_nil z
    | _ => exact z
  obtain ⟨a, B, sI, _, σ', H', cls, d, rfl, J', nb, up, sky, na, os, ag, w⟩ := xx
  have J := J'.ofTry (pins := pins) ok
  have sky : Sky B (X.env :: X.outer) a (Zc cls d) X.env.locals s'.heap := by rw [← hs]; exact sky
  refine Sky.land Zc.steady frm hf sky fun h3 fl3 up3 => ?_
  have J3 : Inv X pins σ' H' { s' with heap := h3 } := J.landed nb fl3.1 (up.trans up3) os ag
  obtain ⟨oe3, vs3, he3, hz3, hd3⟩ := fl3.there
  have nfr : a ∉ frs (X.env :: X.outer) := fun hm => by
    obtain ⟨_, o', e', hnf⟩ := fl3.2.2.1.mem hm
    rw [he3] at e'
    cases e'
    exact hnf _ hd3
  have nL : a ≠ X.env.locals := fun z => nfr (List.mem_filterMap.mpr ⟨X.env, List.mem_cons_self, hf.trans (by rw [z])⟩)
  have nF : a ∉ X.fs := fun hm => by
    obtain ⟨e, he, q⟩ := List.mem_filterMap.mp hm
    exact nfr (List.mem_filterMap.mpr ⟨e, List.mem_cons_of_mem _ he, q⟩)
  have S3 := J3.suite he3 hd3 na nL nF
  have LT : PySem.W.Looks (model X.prog X.w) h3 (typeOf (.ref a)) cls := fun A Q E s k q => wpAny_typeOf_ref (k _ _ he3) (hz3.1.symm ▸ q)
  have go : ∀ {hs' : List ExceptHandler} {l' : List Clz}, HdsX X hs' l' → wMix X.K Wo D l' cls d σ' H' → wpAny (model X.prog X.w) X.A (handleBy (.ref a) X.env hs') (SP X pins D) X.xe { s' with heap := h3 } := by
    intro hs' l' hk
    induction hk with
    | nil =>
      intro w
      refine wpAny_handleBy_nil ?_
      obtain ⟨_, _, _, _, _, T, _, _, he, _, hd, h1, _⟩ := id fl3
      unfold PySem.passOn
      refine wpAny_bind (wpAny_field he hd h1 ?_)
      rw [if_neg (show ¬ ((Value.ref T == Value.none) = true) by simp)]
      have fin : wpAny (model X.prog X.w) X.A (setFlight (.ref a) X.env.frame) (fun _ s4 => wpAny (model X.prog X.w) X.A (throw (.ref a) : Sem Flow) (SP X pins D) X.xe s4) X.xe { s' with heap := h3 } := by
        rw [hf]
        exact HandSPX.setFlight_upZ fl3 fun h4 hh4 up4 => wpAny_throw (tk _ _ ⟨a, B, sI, pins, σ', H', cls, d, rfl, J, nb, (up.trans up3).trans up4, .inr (.inr (by rw [hs]; exact hh4)), na, os, ag, w⟩)
      first
        | exact wpAny_bind (wpAny_pure (wpAny_bind fin))
        | exact wpAny_bind fin
    | @cons x c n i ts b₀ suite np pos' hds2 l2 hc hn hsu r ih =>
      rintro ⟨b, hb1, hyes, hno⟩
      refine wpAny_handleBy_cons (codeAny_handlers_test ?_) (by intro q; cases q)
      have LM := PySem.W.exm_one (M := model X.prog X.w) (J3.kIn) LT hb1
      have test : ∀ {Q : Value → Shared → Prop} {E : Value → Shared → Prop}, Q c { s' with heap := h3 } → wpAny (model X.prog X.w) (X.A.mark (some (.ref a))) (eval (.Name x np) X.env) Q E { s' with heap := h3 } := fun {Q E} q => by
        obtain ⟨hg, hdb, hm | ⟨hm, hv, hnn⟩⟩ := hc
        · exact ld_glob (X := X.suite a ((a, oe3) :: (X.pn ++ pins))) S3 hg hm q hdb
        · exact ld_blt (X := X.suite a ((a, oe3) :: (X.pn ++ pins))) S3 hg hm hv q hnn hdb
      refine test (LM.here ?_)
      cases b with
      | false =>
        show wpAny _ X.A (handleBy (.ref a) X.env hds2) _ _ _
        exact ih (hno rfl)
      | true =>
        have land : ∀ {h4 : Heap}, HandSPX.FlyingZ B (X.env :: X.outer) a (Zc cls d) h4 → h3.UpToSlots h4 → ∃ oe vs, h4.get? a = some oe ∧ Zc cls d oe ∧ oe.data = .fields vs ∧ Inv (X.suite a ((a, oe) :: (X.pn ++ pins))) [] σ' H' { s' with heap := h4 } := fun {h4} fl4 up4 => by
          have J4 : Inv X pins σ' H' { s' with heap := h4 } := J.landed nb fl4.1 ((up.trans up3).trans up4) os ag
          obtain ⟨oe, vs, e1, e2, e3⟩ := fl4.there
          exact ⟨oe, vs, e1, e2, e3, J4.suite e1 e3 na nL nF⟩
        cases n with
        | none =>
          cases i with
          | some i => exact hn.elim
          | none =>
            refine codeAny_handlers_suite (HandSPX.lands_againZ fl3 fun h4 fl4 up4 => ?_)
            obtain ⟨oe, vs, e1, e2, e3, S4⟩ := land fl4 up4
            refine wpAny_mono ((hsu a oe cls d (X.pn ++ pins) e2 ⟨_, e3⟩).run [] _ _ H' _ S4 (hyes rfl a na)) (fun f s6 z => ?_) (fun _ _ z => z.elim)
            cases f with
            | next => obtain ⟨σ6, H6, S6, q⟩ := z; exact ⟨_, _, S6.unsuite ok, q⟩
            | brk => obtain ⟨σ6, H6, S6, q⟩ := z; exact ⟨_, _, S6.unsuite ok, q⟩
            | cont => obtain ⟨σ6, H6, S6, q⟩ := z; exact ⟨_, _, S6.unsuite ok, q⟩
            | ret u => obtain ⟨v, σ6, H6, S6, r6, q⟩ := z; exact ⟨_, _, _, S6.unsuite ok, r6, q⟩
        | some n =>
          cases i with
          | none => exact hn.elim
          | some i =>
            obtain ⟨hi, hln⟩ := hn
            refine codeAny_handlers_suite_as (HandSPX.lands_againZ fl3 fun h4 fl4 up4 => ?_)
            obtain ⟨oe, vs, e1, e2, e3, S4⟩ := land fl4 up4
            refine store_ok (X := X.suite a ((a, oe) :: (X.pn ++ pins))) (v := .ref a) S4 hN hi (.inl hln) rfl (fun s5 S5 => ?_) (.inr hln)
            refine wpAny_mono ((hsu a oe cls d (X.pn ++ pins) e2 ⟨_, e3⟩).run [] s5 _ H' _ S5 (hyes rfl a na)) (fun f s6 z => ?_) (fun _ _ z => z.elim)
            have end_ : ∀ {σ6 : L2.St} {H6 : Hp} {Q : Shared → Prop}, Inv (X.suite a ((a, oe) :: (X.pn ++ pins))) [] σ6 H6 s6 → (∀ s7, Inv X pins (σ6.set i none) H6 s7 → Q s7) →
              wpAny (model X.prog X.w) X.A (do bindName X.env n .none; unbindBehindTheSuite X.env n pos') (fun _ s7 => Q s7) X.xe s6 := fun S6 hq => gone_ok (S6.unsuite ok) hN hi hln hq
            cases f with
            | next => obtain ⟨σ6, H6, S6, q⟩ := z; exact end_ S6 fun s7 J7 => ⟨_, _, J7, q⟩
            | brk => obtain ⟨σ6, H6, S6, q⟩ := z; exact end_ S6 fun s7 J7 => ⟨_, _, J7, q⟩
            | cont => obtain ⟨σ6, H6, S6, q⟩ := z; exact end_ S6 fun s7 J7 => ⟨_, _, J7, q⟩
            | ret u => obtain ⟨v, σ6, H6, S6, r6, q⟩ := z; exact end_ S6 fun s7 J7 => ⟨_, _, _, J7, r6, q⟩
  exact go hh w
end
end Lo
namespace Lo
open PySem PySem.Spec PyProof.Rows L2
def GI.wx (G : GI) (z : Addr × Option Addr) : GI := { G with xn := some z }
mutual
def xfr : D → Bool
  | .xn _ _ => false
  | .tup xs => xfrs xs
  | .lst xs => xfrs xs
  | .scr xs => xfrs xs
  | .dic kvs => xfrk kvs
  | .obj _ fs => xfrs fs
  | _ => true
def xfrs : List D → Bool
  | [] => true
  | d :: r => xfr d && xfrs r
def xfrk : List (Key × D) → Bool
  | [] => true
  | (_, d) :: r => xfr d && xfrk r
end
section
variable {G : GI} {z : Addr × Option Addr} {ρ : AM} {m : Nat} {F : Hp}
mutual
theorem RD.lift (hn : G.xn = none) : ∀ {d : D} {v : V}, RD G ρ m F d v → RD (G.wx z) ρ m F d v
  | .non, _, h => by cases h; exact .non
  | .bl b, _, h => by cases h; exact .bl b
  | .int b, _, h => by cases h; exact .int b
  | .str b, _, h => by cases h; exact .str b
  | .tup xs, _, h => by cases h with | tup a b => exact .tup a (RDs.lift hn b)
  | .lst xs, _, h => by cases h with | lst a b => exact .lst a (RDs.lift hn b)
  | .scr xs, _, h => by cases h with | scr a b => exact .scr a (RDs.lift hn b)
  | .dic kvs, _, h => by cases h with | dic a b => exact .dic a (RDk.lift hn b)
  | .obj c fs, _, h => by cases h with | obj a a2 b => exact .obj a a2 (RDo.lift hn b)
  | .fn i, _, h => by cases h; exact .fn i
  | .cl i, _, h => by cases h; exact .cl i
  | .ty i, _, h => by cases h; exact .ty i
  | .loc n, _, h => by cases h with | loc _ q => exact .loc n q
  | .xn c fs, _, h => by cases h with | xn0 a => rw [hn] at a; cases a | xn1 a b r => rw [hn] at a; cases a
theorem RDs.lift (hn : G.xn = none) : ∀ {d : List D} {v : List V}, RDs G ρ m F d v → RDs (G.wx z) ρ m F d v
  | [], _, h => by cases h; exact .nil
  | d :: ds, _, h => by cases h with | cons a b => exact .cons (RD.lift hn a) (RDs.lift hn b)
theorem RDk.lift (hn : G.xn = none) : ∀ {d : List (Key × D)} {v : List (Key × V)}, RDk G ρ m F d v → RDk (G.wx z) ρ m F d v
  | [], _, h => by cases h; exact .nil
  | (k, d) :: ds, _, h => by cases h with | cons a b => exact .cons (RD.lift hn a) (RDk.lift hn b)
theorem RDo.lift (hn : G.xn = none) : ∀ {d : List D} {v : List (Option V)}, RDo G ρ m F d v → RDo (G.wx z) ρ m F d v
  | [], _, h => by cases h; exact .nil
  | d :: ds, _, h => by cases h with | cons a b => exact .cons (RD.lift hn a) (RDo.lift hn b)
end
mutual
theorem RD.unx : ∀ {d : D} {v : V}, xfr d = true → RD (G.wx z) ρ m F d v → RD G ρ m F d v
  | .non, _, _, h => by cases h; exact .non
  | .bl b, _, _, h => by cases h; exact .bl b
  | .int b, _, _, h => by cases h; exact .int b
  | .str b, _, _, h => by cases h; exact .str b
  | .tup xs, _, l, h => by cases h with | tup a b => exact .tup a (RDs.unx (by simpa only [xfr] using l) b)
  | .lst xs, _, l, h => by cases h with | lst a b => exact .lst a (RDs.unx (by simpa only [xfr] using l) b)
  | .scr xs, _, l, h => by cases h with | scr a b => exact .scr a (RDs.unx (by simpa only [xfr] using l) b)
  | .dic kvs, _, l, h => by cases h with | dic a b => exact .dic a (RDk.unx (by simpa only [xfr] using l) b)
  | .obj c fs, _, l, h => by cases h with | obj a a2 b => exact .obj a a2 (RDo.unx (by simpa only [xfr] using l) b)
  | .fn i, _, _, h => by cases h; exact .fn i
  | .cl i, _, _, h => by cases h; exact .cl i
  | .ty i, _, _, h => by cases h; exact .ty i
  | .loc n, _, _, h => by cases h with | loc _ q => exact .loc n q
  | .xn c fs, _, l, _ => by simp [xfr] at l
theorem RDs.unx : ∀ {d : List D} {v : List V}, xfrs d = true → RDs (G.wx z) ρ m F d v → RDs G ρ m F d v
  | [], _, _, h => by cases h; exact .nil
  | d :: ds, _, l, h => by
    simp only [xfrs, Bool.and_eq_true] at l
    cases h with | cons a b => exact .cons (RD.unx l.1 a) (RDs.unx l.2 b)
theorem RDk.unx : ∀ {d : List (Key × D)} {v : List (Key × V)}, xfrk d = true → RDk (G.wx z) ρ m F d v → RDk G ρ m F d v
  | [], _, _, h => by cases h; exact .nil
  | (k, d) :: ds, _, l, h => by
    simp only [xfrk, Bool.and_eq_true] at l
    cases h with | cons a b => exact .cons (RD.unx l.1 a) (RDk.unx l.2 b)
theorem RDo.unx : ∀ {d : List D} {v : List (Option V)}, xfrs d = true → RDo (G.wx z) ρ m F d v → RDo G ρ m F d v
  | [], _, _, h => by cases h; exact .nil
  | d :: ds, _, l, h => by
    simp only [xfrs, Bool.and_eq_true] at l
    cases h with | cons a b => exact .cons (RD.unx l.1 a) (RDo.unx l.2 b)
end
theorem Rel.lift0 {R H : Hp} (r : Rel G ρ [] F R H) : Rel (G.wx z) ρ [] F R H :=
  ⟨r.fr, r.rs, r.fR, fun n o q => by simp at q, r.inj, r.dinj, r.lF, r.lR, r.lH, r.tb⟩
theorem Rel.drop0 {R H : Hp} (r : Rel (G.wx z) ρ [] F R H) : Rel G ρ [] F R H :=
  ⟨r.fr, r.rs, r.fR, fun n o q => by simp at q, r.inj, r.dinj, r.lF, r.lR, r.lH, r.tb⟩
theorem rdf_n (hn : G.xn = none) : ∀ {fs : List (Str × D)} {vs : List (Str × V)}, (fs.all fun p => lowD 0 p.2) = true → RDf G ρ m F fs vs → RDn (G.wx z) ρ 0 F fs vs
  | [], _, _, h => by cases h; exact .nil
  | (k, d) :: ds, _, l, h => by
    simp only [List.all_cons, Bool.and_eq_true] at l
    cases h with
    | cons a b => exact .cons (RD.lift hn (a.low (SubW.refl _) (fun _ q => absurd q (Nat.not_lt_zero _)) l.1)) (rdf_n hn l.2 b)
end
structure Hdl where
  c : Nat
  sl : Option Nat
  su : Sc
def suS (n : Nat) (i : Option Nat) (d : D) : Sl := match i with
  | some i => (List.replicate n none).set i (some d)
  | none => List.replicate n none
def suR (h : List O) : Out → Out
  | .rt d h2 => match setD h2 0 d with
    | some d' => if xfr d' = true then .rt d' h else .no
    | none => .no
  | _ => .no
def tryH (sub : Nat → Nat → Option Bool) (c : Nat) (fs : List (Str × D)) (s : Sl) (h : List O) : List Hdl → Out
  | [] => .ex c fs s h
  | k :: r => match sub c k.c with
    | some true => if (fs.all fun p => lowD 0 p.2) = true then suR h (k.su (suS s.length k.sl (.xn c fs)) []) else .no
    | some false => tryH sub c fs s h r
    | none => .no
def tryO (sub : Nat → Nat → Option Bool) (hs : List Hdl) : Out → Out
  | .ex c fs s h => tryH sub c fs s h hs
  | o => o
def scTry (sub : Nat → Nat → Option Bool) (b : Sc) (hs : List Hdl) : Sc := fun s h => tryO sub hs (b s h)
abbrev WF : WX := fun _ _ _ _ => False
inductive HdsD (X : Cx) (G : GI) (xok : Nat → Bool) : List ExceptHandler → List Hdl → Prop
  | nil : HdsD X G xok [] []
  | cons {x : Str} {n : Option Str} {k : Hdl} {b₀ : Stmt} {suite : List Stmt} {np pos' : Pos} {hds : List ExceptHandler} {l : List Hdl} (hc : Names X x (.ref (G.clA k.c))) (hn : NmOk X n k.sl)
      (hsu : ∀ (a : Addr) (oe : Obj) (c : Nat) (d : Option Addr) (pn : List (Addr × Obj)), xok c = true → Zc (.ref (G.clA c)) d oe → (∃ vs, oe.data = .fields vs) → PSs (X.suite a ((a, oe) :: pn)) (b₀ :: suite) (rdS (G.wx (a, d)) WF k.su)) (r : HdsD X G xok hds l) :
      HdsD X G xok (.ExceptHandler (some (.Name x np)) n (b₀ :: suite) pos' :: hds) (k :: l)
def clzOf (G : GI) (xok : Nat → Bool) (k : Hdl) : Clz := (.ref (G.clA k.c), k.sl, fun a cls d D σ H => ∃ c, cls = .ref (G.clA c) ∧ xok c = true ∧ rdS (G.wx (a, d)) WF k.su D σ H)
section
variable {X : Cx} {G : GI} {W : WX} {xok : Nat → Bool}
theorem PSs.pre {sts : List Stmt} {t : TS} {P : Prop} (h : P → PSs X sts t) : PSs X sts (fun D σ H => P ∧ t D σ H) := ⟨fun pins s σ H D I q => (h q.1).run pins s σ H D I q.2⟩
theorem hdsX_of {hds : List ExceptHandler} {ks : List Hdl} (h : HdsD X G xok hds ks) : HdsX X hds (ks.map (clzOf G xok)) := by
  induction h with
  | nil => exact .nil
  | @cons x n k b₀ suite np pos' hds l hc hn hsu r ih =>
    refine .cons hc hn (fun a oe cls d pn hz hf => ⟨fun pins s σ H D I q => ?_⟩) ih
    obtain ⟨c, e, xo, q⟩ := q
    subst e
    exact (hsu a oe c d pn xo hz hf).run pins s σ H D I q
theorem sus_rel {ρ : AM} {F : Hp} {s : Sl} {σ : L2.St} {i : Option Nat} {d : D} {a : Addr} (hl : s.length = σ.length) (q : RD G ρ 0 F d (.ref a)) : SRel G ρ 0 F (suS s.length i d) (sIn i a σ) := by
  cases i with
  | none =>
    refine ⟨by simp [suS, sIn, hl], fun j x e => ?_⟩
    simp only [suS, List.getElem?_replicate] at e
    split at e <;> cases e
  | some i =>
    refine ⟨by simp [suS, sIn, hl], fun j x e => ?_⟩
    simp only [suS] at e
    by_cases hj : i = j
    · subst hj
      by_cases hi : i < s.length
      · rw [List.getElem?_set_self (by simpa using hi)] at e
        cases e
        exact ⟨_, List.getElem?_set_self (by omega), q⟩
      · rw [List.getElem?_eq_none (by simp; omega)] at e
        cases e
    · rw [List.getElem?_set_ne hj, List.getElem?_replicate] at e
      split at e <;> cases e
theorem mix_of (hxn : G.xn = none) {sub : Nat → Nat → Option Bool} (hsub : ∀ c c' b, sub c c' = some b → PySem.W.exmOne X.K (.ref (G.clA c)) (.ref (G.clA c')) = some b ∧ xok c = true) {R : Hp} {ρ : AM} {m : Nat} {F : Hp} {N : Ends} {c : Nat} {fs : List (Str × D)} {s : Sl} {h : List O} :
    ∀ {ks : List Hdl}, WpS G W R ρ m F (tryH sub c fs s h ks) N → ∀ ρ' F' cls dd σ' H', Ext ρ m F ρ' h.length F' → Rel G ρ' h F' R H' → SRel G ρ' h.length F' s σ' → RX G ρ' h.length F' c fs cls dd → wMix X.K W N (ks.map (clzOf G xok)) cls dd σ' H'
  | [], wp, ρ', F', cls, dd, σ', H', x, r, sr, q => wp ρ' F' cls dd σ' H' x r sr q
  | k :: ks, wp, ρ', F', cls, dd, σ', H', x, r, sr, q => by
    simp only [tryH] at wp
    cases e : sub c k.c with
    | none => rw [e] at wp; exact wp.elim
    | some b =>
      obtain ⟨he, hx⟩ := hsub _ _ _ e
      have ec : cls = .ref (G.clA c) := q.1
      refine ⟨b, by rw [ec]; exact he, fun hb a na => ?_, fun hb => ?_⟩
      · subst hb
        rw [e] at wp
        simp only at wp
        split at wp
        · rename_i hlow
          refine ⟨c, ec, hx, ρ', suS s.length k.sl (.xn c fs), [], F', restH G.tabs F' H', r.pure.lift0, sus_rel sr.len ?_, ?_⟩
          · obtain ⟨_, q2⟩ := q
            cases fs with
            | nil =>
              have q2 : dd = none := q2
              subst q2
              exact .xn0 rfl
            | cons f fs =>
              obtain ⟨b, vs, e1, e2, e3⟩ := q2
              subst e1
              exact .xn1 rfl e2 (rdf_n hxn hlow e3)
          · cases e2 : k.su (suS s.length k.sl (.xn c fs)) [] with
            | rt d h2 =>
              rw [e2] at wp
              simp only [suR] at wp
              cases e3 : setD h2 0 d with
              | none => rw [e3] at wp; exact wp.elim
              | some d' =>
                rw [e3] at wp
                simp only at wp
                split at wp
                · rename_i hf
                  intro ρ1 F1 v H1 x1 r1 q1
                  obtain ⟨r2, s2, l2, k2⟩ := r1.settle (m := 0) (h2 := []) (Nat.zero_le _) rfl
                  obtain ⟨r3, x3⟩ := r.unpure r2.drop0 (x1.sub.trans s2)
                  have z := RD.unx hf (k2 d d' v e3 q1)
                  exact wp ρ' _ v H1 (x.trans x3) r3 (z.mono ⟨Nat.zero_le _, fun n hn => absurd hn (Nat.not_lt_zero _), fun n hn => absurd hn (Nat.not_lt_zero _), SubW.refl _⟩)
                · exact wp.elim
            | nx _ _ => rw [e2] at wp; exact wp.elim
            | bk _ _ => rw [e2] at wp; exact wp.elim
            | ct _ _ => rw [e2] at wp; exact wp.elim
            | ex _ _ _ _ => rw [e2] at wp; exact wp.elim
            | no => rw [e2] at wp; exact wp.elim
        · exact wp.elim
      · subst hb
        rw [e] at wp
        exact mix_of hxn hsub wp ρ' F' cls dd σ' H' x r sr q
theorem ps_tryD (hxn : G.xn = none) {body : List Stmt} {h₀ : ExceptHandler} {hds : List ExceptHandler} {ks : List Hdl} {pos : Pos} {B : Sc} {sub : Nat → Nat → Option Bool} (hN : X.N.Nodup) (hs : X.stack = X.env :: X.outer) (hf : X.env.frame = some X.env.locals) (tk : Takes X W)
    (hsub : ∀ c c' b, sub c c' = some b → PySem.W.exmOne X.K (.ref (G.clA c)) (.ref (G.clA c')) = some b ∧ xok c = true)
    (hb : ∀ (W : WX) (pn : List (Addr × Obj)) (xe : Value → Shared → Prop), Takes (X.tr pn xe) W → PassesOwn (model X.prog X.w) X.A X.env xe → PSs (X.tr pn xe) body (rdS G W B))
    (hh : HdsD X G xok (h₀ :: hds) ks) : PS X (.Try body (h₀ :: hds) [] [] pos) (rdS G W (scTry sub B ks)) :=
  (ps_tryX hN hs hf tk hb (hdsX_of hh)).weakL fun N σ H ⟨ρ, s, h, F, R, r, sr, wp⟩ => by
    refine ⟨ρ, s, h, F, R, r, sr, ?_⟩
    unfold scTry at wp
    cases e : B s h with
    | ex c fs s' h' => rw [e] at wp; exact mix_of hxn hsub wp
    | _ => rw [e] at wp; exact wp
end
def scRz (c : Nat) : Sc := fun s h => .ex c [] s h
section
variable {X : Cx} {G : GI} {W : WX}
theorem ps_rz {x m : Str} {c j : Nat} {p p2 p3 pos : Pos} (hc : X.calm = true) (tk : Takes X W) (q : PySem.W.excIn X.K (G.clA c) PySem.HandSPX.veTail "ValueError.__new__" = true) (gC : X.mg x = some (.ref (G.clA c))) (kC : PySem.W.keepIn X.K (.ref (G.clA c)) = true) (r : Raises X (.ref (G.clA c))) (hg : Gl X x)
    (hdb : (x == ("__debug__" : Str)) = false) : PS X (.Raise (some (.Call (.Name x p) [.Constant (.str m) j p2] [] p3)) none pos) (rdS G W (scRz c)) :=
  (ps_raise hc tk (pmk_own PySem.F.excBase_ValueError q gC kC r hg hdb)).weakL fun N σ H ⟨ρ, s, h, F, R, r, sr, wp⟩ => wp ρ F _ _ σ H (Ext.refl _ _ _) r sr ⟨rfl, rfl⟩
end
end Lo
namespace Lo
open PySem PySem.Spec PyProof.Rows L2 ClX
structure PeK (K : PySem.W.Frag) (C : Addr) (mc : Value) : Prop where
  rd : CRead K C mc
  at_ : PySem.W.findCls K (.ref C) mc "__init__" = some (.val (.builtin "ValueError.__init__"))
theorem pe_peinit {X : Cx} {x : Str} {CP : Addr} {mc : Value} {e : Expr} {es : List Expr} {ta : TA} {p1 p2 pos : Pos} {pl : Sem Bool} (hg : Gl X x) (hm : X.mg x = some (.ref CP)) (T : PeK X.K CP mc) (hdb : (x == ("__debug__" : Str)) = false) (ha : PA X (e :: es) ta)
    (hc : eval (.Call (.Attribute (.Name x p1) "__init__" p2) (e :: es) [] pos) X.env = (do
      let ov ← eval (.Name x p1) X.env
      standAt p2.atName
      let (f, first) ← holding [ov] (getMethod ov "__init__" pl)
      callWith pos f first (backTo pos (starEach (e :: es) X.env)) (backToKw pos (keywordEach [] X.env))))
    (he : starEach (e :: es) X.env = (false, eval e X.env) :: starEach es X.env) (hpl : (backTo pos (starEach es X.env)).any (·.1) = false) :
    PE X (.Call (.Attribute (.Name x p1) "__init__" p2) (e :: es) [] pos) (tVeI X.K ta) := by
  refine ⟨fun pins s σ H Q I h => ?_⟩
  refine PySem.W.methodCall_KW (ld_glob I hg hm ?_ hdb) hc
  refine PySem.W.method_cls I.kIn T.rd.ga (PySem.W.cls_value I.kIn T.rd.rd T.at_ (by decide +kernel) ?_)
  show wpAny _ _ (callWith pos (Value.builtin "ValueError.__init__") [] (backTo pos (starEach (e :: es) X.env)) []) _ _ _
  refine PyProof.Rows.callWith_method1 (thn (ha.run pos pins _ σ H _ (I.tok _) h) fun us s1 ⟨vs, H1, I1, r1, a, C, ws, ev, hl, O, ea, q⟩ => ?_) he hpl
  subst ev
  cases r1 with
  | cons ra rs =>
    cases ra
    exact oinit_ok O I1 ea (by rw [← Paired.length rs, sizeLine_eq]; omega) fun s' J => ⟨.non, H1, J, rfl, q⟩
def xiStm (self : Str) : List Str → List Stmt → Bool
  | [], [] => true
  | f :: fs, .Assign [.Attribute (.Name s _) g _] (.Name y _) _ :: r => s == self && g == f && y == f && xiStm self fs r
  | _, _ => false
def xiArg (ps : List Str) : Expr → Bool
  | .Constant (.str _) _ _ => true
  | .JoinedStr [.Constant (.str t) _ _, .FormattedValue (.Name y _) c none _] _ => ps.contains y && decide (t.length ≤ 100) && c == -1
  | _ => false
def xiBody (pe : Str) (ps : List Str) : List Stmt → Bool
  | .Expr (.Call (.Attribute (.Name x p1) m p2) [.Name s p3, arg] [] pos) _ :: r => match ps with
    | self :: fs => x == pe && m == ("__init__" : Str) && s == self && xiArg fs arg && xiStm self fs r && !(fs.contains self) && !(pe == ("__debug__" : Str)) && (ps.all fun y => !(y == ("__debug__" : Str)) && !(y == ("__classdict__" : Str))) && (p2.endLine == pos.line) && fewB [.Name s p3, arg] && noSup (.Name x p1)
    | [] => false
  | _ => false
def okV (v : V) : Prop := (∃ i : Int, v = .int i ∧ i.natAbs.log2 < 1920 ∧ (Str.ofString (toString i)).length ≤ 1000) ∨ ∃ x : Str, v = .str x ∧ x.length ≤ 1000
def spXi (K : PySem.W.Frag) (C : Addr) (ns : List Str) : Sp := fun vs H Q _ => ∃ (a : Addr) (ws : List V), vs = .ref a :: ws ∧ ws.length = ns.length ∧ ns ≠ [] ∧ (∀ v ∈ ws, okV v) ∧ H a = some (exo a C none) ∧
  ∀ d, H d = none → d ≠ a → Q .non (upd (upd H d (exd d (ns.zip ws).reverse)) a (exo a C (some d)))
theorem start_at {N : List Str} {vs : List V} {i : Nat} {v : V} (h : vs[i]? = some v) : (L2.start N vs)[i]? = some (some v) := by
  have hi : i < vs.length := (List.getElem?_eq_some_iff.mp h).1
  unfold L2.start
  rw [List.getElem?_append_left (by simpa using hi), List.getElem?_map, h]
  rfl
theorem upd3 {H : Hp} {a d : Addr} {x y z : HO} (h : d ≠ a) : upd (upd (upd H d x) a z) d y = upd (upd H d y) a z := by
  funext b
  by_cases h1 : b = d
  · subst h1; rw [upd_same, upd_ne h, upd_same]
  · rw [upd_ne h1]
    by_cases h2 : b = a
    · subst h2; rw [upd_same, upd_same]
    · rw [upd_ne h2, upd_ne h1, upd_ne h2, upd_ne h1]
section
variable {X : Cx} {ps : List Str} {self : Str} {C : Addr}
theorem xi_rest (T : OexC X.K C) (vis : ∀ (i : Nat) (y : Str), ps[i]? = some y → ∃ hv : X.N[i]? = some y, Vis X.env.scope y ∧ (y == ("__debug__" : Str)) = false ∧ (y == ("__classdict__" : Str)) = false) (hs : ps[0]? = some self) :
    ∀ (fs : List Str) (r : List Stmt) (k : Nat), xiStm self fs r = true → (∀ j y, fs[j]? = some y → ps[k + j]? = some y) → (∀ f ∈ fs, PySem.W.findIn X.K (.ref C) f = some none) →
      ∃ t, PSs X r t ∧ ∀ (D : Ends) (σ : L2.St) (H : Hp) (a dx : Addr) (acc : List (Str × V)) (ws : List V), σ[0]? = some (some (.ref a)) → (∀ j v, ws[j]? = some v → σ[k + j]? = some (some v)) → ws.length = fs.length → dx ≠ a → acc.length + fs.length ≤ 900 →
        D.nx σ (upd (upd H dx (exd dx ((fs.zip ws).reverse ++ acc))) a (exo a C (some dx))) → t D σ (upd (upd H dx (exd dx acc)) a (exo a C (some dx))) := by
  intro fs
  induction fs with
  | nil =>
    intro r k hr _ _
    cases r with
    | nil =>
      refine ⟨_, pss_nil, fun D σ H a dx acc ws h0 hw hl hne hz hq => ?_⟩
      exact hq
    | cons _ _ => simp [xiStm] at hr
  | cons f fs ih =>
    intro r k hr hp hno
    unfold xiStm at hr
    split at hr
    · rename_i e; cases e
    · rename_i f' fs' s ps' g pa y py pos r' e1
      cases e1
      simp only [Bool.and_eq_true, beq_iff_eq] at hr
      obtain ⟨⟨⟨es, eg⟩, ey⟩, hr⟩ := hr
      rw [es, eg, ey]
      obtain ⟨t, ht, hq⟩ := ih r' (k + 1) hr (fun j y q => by have := hp (j + 1) y (by simpa using q); rwa [show k + 1 + j = k + (j + 1) by omega]) (fun z hz => hno z (List.mem_cons_of_mem _ hz))
      obtain ⟨n0, v0, d0, c0⟩ := vis 0 _ hs
      obtain ⟨n1, v1, d1, c1⟩ := vis k f (by have := hp 0 f rfl; simpa using this)
      refine ⟨_, pss_cons (ps_ost (pe_var (i := 0) n0 v0 d0 c0) (pe_var (i := k) n1 v1 d1 c1)) ht, fun D σ H a dx acc ws h0 hw hl hne hz hD => ?_⟩
      cases ws with
      | nil => simp at hl
      | cons w ws =>
        refine ⟨w, by have := hw 0 w rfl; simpa using this, .ref a, h0, a, C, rfl, T, hno f List.mem_cons_self, .inr ⟨dx, acc, by rw [upd_same], by rw [upd_ne hne, upd_same], by simp at hz; omega, ?_⟩⟩
        rw [upd3 hne]
        refine hq D σ H a dx ((f, w) :: acc) ws h0 (fun j v q => by have := hw (j + 1) v (by simpa using q); rwa [show k + 1 + j = k + (j + 1) by omega]) (by simpa using hl) hne (by simp at hz ⊢; omega) ?_
        rw [List.zip_cons_cons, List.reverse_cons, List.append_assoc] at hD
        exact hD
    · cases hr
theorem xi_body {pe : Str} {CP : Addr} {mc : Value} {fs : List Str} {body : List Stmt} (T : OexC X.K C) (TP : PeK X.K CP mc) (hgl : Gl X pe) (hmg : X.mg pe = some (.ref CP)) (hps : ps = self :: fs)
    (vis : ∀ (i : Nat) (y : Str), ps[i]? = some y → ∃ hv : X.N[i]? = some y, Vis X.env.scope y ∧ (y == ("__debug__" : Str)) = false ∧ (y == ("__classdict__" : Str)) = false)
    (hno : ∀ f ∈ fs, PySem.W.findIn X.K (.ref C) f = some none) (hb : xiBody pe ps body = true) (hz : fs.length ≤ 100) :
    ∃ t, PSs X body t ∧ ∀ (D : Ends) (σ : L2.St) (H : Hp) (a : Addr) (ws : List V), σ[0]? = some (some (.ref a)) → (∀ j v, ws[j]? = some v → σ[1 + j]? = some (some v)) → ws.length = fs.length → fs ≠ [] → (∀ v ∈ ws, okV v) → H a = some (exo a C none) →
        (∀ d, H d = none → d ≠ a → D.nx σ (upd (upd H d (exd d (fs.zip ws).reverse)) a (exo a C (some d)))) → t D σ H := by
  subst hps
  unfold xiBody at hb
  split at hb
  · rename_i x p1 m p2 s p3 arg pos p4 r
    simp only [Bool.and_eq_true, beq_iff_eq, Bool.not_eq_true'] at hb
    obtain ⟨⟨⟨⟨⟨⟨⟨⟨⟨⟨rfl, rfl⟩, rfl⟩, harg⟩, hr⟩, _⟩, hdb⟩, _⟩, hpo⟩, hfew⟩, hsup⟩ := hb
    obtain ⟨n0, v0, d0, c0⟩ := vis 0 s rfl
    have pself : ∀ p, PE X (.Name s p) (tVar 0) := fun p => pe_var (i := 0) n0 v0 d0 c0
    -- the argument
    obtain ⟨ta, hta, hst, hqa⟩ : ∃ ta, PA X [arg] (tCons ta tNil) ∧ (backTo pos (starEach [arg] X.env)).any (·.1) = false ∧ ∀ σ H Q (ws : List V), (∀ j v, ws[j]? = some v → σ[1 + j]? = some (some v)) → ws.length = fs.length → (∀ v ∈ ws, okV v) → (∀ x : Str, Q (.str x) H) → ta σ H Q := by
      unfold xiArg at harg
      split at harg
      · exact ⟨_, pa_cons pe_str pa_nil, rfl, fun σ H Q ws _ _ _ hq => hq _⟩
      · rename_i t j pc y py c pf pj
        simp only [Bool.and_eq_true, decide_eq_true_eq, beq_iff_eq] at harg
        obtain ⟨⟨hy, ht⟩, rfl⟩ := harg
        obtain ⟨i, hi⟩ := List.getElem?_of_mem (List.contains_iff_mem.mp hy)
        obtain ⟨n1, v1, d1, c1⟩ := vis (i + 1) y (by simpa using hi)
        refine ⟨_, pa_cons (pe_joined (.cons pe_str (.cons (pe_fmt (pe_var (i := i + 1) n1 v1 d1 c1)) .nil))) pa_nil, rfl, fun σ H Q ws hw hl ho hq => ?_⟩
        have hil : i < ws.length := by rw [hl]; exact (List.getElem?_eq_some_iff.mp hi).1
        have hwi := hw i ws[i] (List.getElem?_eq_getElem hil)
        rw [Nat.add_comm] at hwi
        have big : (2000 : Nat) ≤ sizeLine := by rw [sizeLine_eq]; decide
        refine ⟨t, rfl, by rw [Str.empty_append]; omega, ws[i], hwi, ?_⟩
        rcases ho ws[i] (List.getElem_mem hil) with ⟨n, e1, e2, e3⟩ | ⟨z, e1, e2⟩
        · exact .inr ⟨n, e1, e2, _, rfl, by rw [Str.empty_append, Str.length_append]; omega, hq _⟩
        · exact .inl ⟨z, e1, by omega, _, rfl, by rw [Str.empty_append, Str.length_append]; omega, hq _⟩
      · cases harg
    have hcall : PE X (.Call (.Attribute (.Name x p1) ("__init__" : Str) p2) [.Name s p3, arg] [] pos) (tVeI X.K (tCons (tVar 0) (tCons ta tNil))) :=
      pe_peinit hgl hmg TP hdb (pa_cons (pself p3) hta) (meth_eval hfew (by simpa using hpo) (base_of hsup)) (by rfl) hst
    have hfirst : ∀ (D : Ends) (σ : L2.St) (H : Hp) (a : Addr) (ws : List V) (K : L2.St → Hp → Prop), σ[0]? = some (some (.ref a)) → (∀ j v, ws[j]? = some v → σ[1 + j]? = some (some v)) → ws.length = fs.length → (∀ v ∈ ws, okV v) → H a = some (exo a C none) → K σ H → tVeI X.K (tCons (tVar 0) (tCons ta tNil)) σ H fun _ H' => K σ H' :=
      fun D σ H a ws K h0 hw hl ho ha hK => ⟨_, h0, hqa σ H _ ws hw hl ho fun z => ⟨a, C, [.str z], rfl, by simp, T, ha, hK⟩⟩
    cases fs with
    | nil =>
      cases r with
      | nil => exact ⟨_, pss_cons (ps_expr hcall) pss_nil, fun D σ H a ws _ _ _ z => absurd rfl z⟩
      | cons _ _ => simp [xiStm] at hr
    | cons f fs2 =>
      unfold xiStm at hr
      split at hr
      · rename_i e; cases e
      · rename_i f' fs' s2 ps' g pa y py pos2 r' e1
        cases e1
        simp only [Bool.and_eq_true, beq_iff_eq] at hr
        obtain ⟨⟨⟨es, eg⟩, ey⟩, hr⟩ := hr
        rw [es, eg, ey]
        obtain ⟨t, ht, hq⟩ := xi_rest (ps := s :: f :: fs2) T vis rfl fs2 r' 2 hr (fun j y q => by rw [show 2 + j = j + 1 + 1 by omega]; simpa using q) (fun z hz => hno z (List.mem_cons_of_mem _ hz))
        obtain ⟨n1, v1, d1, c1⟩ := vis 1 f rfl
        refine ⟨_, pss_cons (ps_expr hcall) (pss_cons (ps_ost (pself _) (pe_var (i := 1) n1 v1 d1 c1)) ht), fun D σ H a ws h0 hw hl _ ho ha hD => ?_⟩
        refine hfirst D σ H a ws _ h0 hw hl ho ha ?_
        cases ws with
        | nil => simp at hl
        | cons w ws =>
          refine ⟨w, hw 0 w rfl, .ref a, h0, a, C, rfl, T, hno f List.mem_cons_self, .inl ⟨ha, fun dx nd ne => ?_⟩⟩
          refine hq D σ H a dx [(f, w)] ws h0 (fun j v q => by have := hw (j + 1) v (by simpa using q); rwa [show 1 + (j + 1) = 2 + j by omega] at this) (by simpa using hl) ne (by simp at hz ⊢; omega) ?_
          have := hD dx nd ne
          rw [List.zip_cons_cons, List.reverse_cons] at this
          exact this
      · cases hr
  · cases hb
end
end Lo
namespace Lo
open PySem PySem.Spec PyProof.Rows L2 ClX
def okD : D → Bool
  | .int i => decide (0 ≤ i) && decide (i < 900)
  | .str x => decide (x.length ≤ 1000)
  | _ => false
def scRzI (c : Nat) (ns : List Str) (L : AcL) : Sc := fun s h => (L s h).bindS s fun ds h1 => if ds.length = ns.length ∧ ns ≠ [] ∧ ns.length ≤ 100 ∧ ds.all okD = true then .ex c (ns.zip ds).reverse s h1 else .no
theorem small_txt : ∀ n : Nat, n < 900 → (Str.ofString (toString (n : Int))).length ≤ 1000 ∧ n.log2 < 1920 := by decide +kernel
section
variable {X : Cx} {G : GI} {W : WX} {ρ : AM} {m : Nat} {F : Hp}
theorem okV_of {d : D} {v : V} (h : okD d = true) (q : RD G ρ m F d v) : okV v := by
  cases d with
  | int i =>
    cases q
    simp only [okD, Bool.and_eq_true, decide_eq_true_eq] at h
    obtain ⟨n, rfl⟩ := Int.eq_ofNat_of_zero_le h.1
    obtain ⟨a, b⟩ := small_txt n (by omega)
    exact .inl ⟨_, rfl, b, a⟩
  | str x =>
    cases q
    simp only [okD, decide_eq_true_eq] at h
    exact .inr ⟨x, rfl, h⟩
  | _ => cases h
theorem okV_all : ∀ {ds : List D} {vs : List V}, ds.all okD = true → RDs G ρ m F ds vs → ∀ v ∈ vs, okV v
  | [], _, _, q => by cases q; exact fun v hv => nomatch hv
  | d :: ds, _, h, q => by
    simp only [List.all_cons, Bool.and_eq_true] at h
    cases q with
    | cons a b =>
      intro v hv
      rcases List.mem_cons.mp hv with rfl | hv
      · exact okV_of h.1 a
      · exact okV_all h.2 b v hv
theorem RDf.app : ∀ {a b : List (Str × D)} {x y : List (Str × V)}, RDf G ρ m F a x → RDf G ρ m F b y → RDf G ρ m F (a ++ b) (x ++ y)
  | _, _, _, _, .nil, h => h
  | _, _, _, _, .cons p q, h => .cons p (RDf.app q h)
theorem RDf.rev : ∀ {a : List (Str × D)} {x : List (Str × V)}, RDf G ρ m F a x → RDf G ρ m F a.reverse x.reverse
  | _, _, .nil => .nil
  | _, _, .cons p q => by rw [List.reverse_cons, List.reverse_cons]; exact (RDf.rev q).app (.cons p .nil)
theorem RDs.zipN : ∀ {ns : List Str} {ds : List D} {vs : List V}, RDs G ρ m F ds vs → RDf G ρ m F (ns.zip ds) (ns.zip vs)
  | [], _, _, _ => .nil
  | n :: ns, [], _, h => by cases h; exact .nil
  | n :: ns, d :: ds, _, h => by cases h with | cons a b => exact .cons a (RDs.zipN b)
theorem exc_heap {H : Hp} {a d : Addr} {C : Addr} {fs : List (Str × V)} (ha : H a = none) (hd : H d = none) (ne : d ≠ a) : upd (del (upd (upd (upd H a (exo a C none)) d (exd d fs)) a (exo a C (some d))) a) d (.xd fs) = upd H d (.xd fs) := by
  funext b
  by_cases h1 : b = d
  · subst h1; rw [upd_same, upd_same]
  · rw [upd_ne h1, upd_ne h1]
    by_cases h2 : b = a
    · subst h2; rw [del_same, ha]
    · rw [del_ne h2, upd_ne h2, upd_ne h1, upd_ne h2]
theorem ps_rzI {x : Str} {c k : Nat} {ns : List Str} {L : AcL} {fI : Addr} {fd : FuncData} {ps : List Str} {e : Expr} {es : List Expr} {p p3 pos : Pos} (hc : X.calm = true) (tk : Takes X W) (T : OexC X.K (G.clA c)) (iC : PySem.W.findIn X.K (.ref (G.clA c)) "__init__" = some (some (.ref fI))) (tI : PySem.W.typeIn X.K (.ref fI) = some (.type "function"))
    (F1 : FnOk X.prog X.w X.K X.mg X.base (CX X.prog X.w) k fI fd ps (spXi X.K (G.clA c) ns)) (hr : Room (k + 1) X.A) (hb : Binds X.K fd ps []) (hg : Gl X x) (hm : X.mg x = some (.ref (G.clA c))) (hdb : (x == ("__debug__" : Str)) = false)
    (ha : PA X (e :: es) (rdA G W L)) (he : starEach (e :: es) X.env = (false, eval e X.env) :: starEach es X.env) (hpl : (backTo p3 (starEach es X.env)).any (·.1) = false) :
    PS X (.Raise (some (.Call (.Name x p) (e :: es) [] p3)) none pos) (rdS G W (scRzI c ns L)) :=
  (ps_raise hc tk (pmk_oex (dvs := []) T iC tI F1 hr hb .nil (passes_call tk fun _ _ _ _ z => z.elim) hg hm ha hdb he hpl)).weakL fun N σ H ⟨ρ, s, h, F, R, r, sr, wp⟩ => by
    refine stepS (L := LDs G) r sr wp fun ρ1 h1 F1 ds vs H1 x1 r1 q1 wp1 => ?_
    split at wp1
    · rename_i hh
      obtain ⟨hl, hne, hz, hok⟩ := hh
      have hlv := q1.length
      refine ⟨by omega, fun a na => ⟨a, vs, by rw [List.append_nil], by omega, hne, okV_all hok q1, upd_same, fun d nd ne => ⟨rfl, d, (ns.zip vs).reverse, upd_same, by rw [upd_ne ne, upd_same], by rw [upd_ne ne] at nd; exact nd, ?_⟩⟩⟩
      have nd' : H1 d = none := by rw [upd_ne ne] at nd; exact nd
      rw [exc_heap na nd' ne]
      obtain ⟨r2, x2⟩ := r1.frz (.xd (ns.zip vs).reverse) nd'
      refine wp1 ρ1 _ _ _ σ _ x2 r2 ((sr.mono x1).mono x2) ⟨rfl, ?_⟩
      have rf := ((RDs.zipN (ns := ns) (q1.mono x2)).rev)
      have nn : (ns.zip ds).reverse ≠ [] := fun z => by
        have z2 := congrArg List.length z
        simp only [List.length_reverse, List.length_zip, List.length_nil] at z2
        have : ns.length ≠ 0 := fun q => hne (List.eq_nil_of_length_eq_zero q)
        omega
      cases e1 : (ns.zip ds).reverse with
      | nil => exact absurd e1 nn
      | cons f fs => rw [e1] at rf; exact ⟨d, _, rfl, upd_same, rf⟩
    · exact wp1.elim
end
end Lo
namespace Lo
open PySem PySem.Spec PyProof.Rows L2
def acXf (f : Str) (A : Ac) : Ac := fun s h => (A s h).bind fun d h1 => match d with
  | .xn _ fs => match fs.lookup f with
    | some v => .ok v h1
    | none => .no
  | _ => .no
structure SEnv where
  N : List Str
  sc : Scope
  xfs : List Str
structure XOk (E : SEnv) (X : Cx) (G : GI) : Prop where
  K : X.K = G.K
  N : X.N = E.N
  sc : X.env.scope = E.sc
  un : X.A.units + 65 < cLine
  xs : ∃ (X0 : Cx) (a : Addr) (oe : Obj) (pn : List (Addr × Obj)) (d : Option Addr) (c : Nat), X = X0.suite a ((a, oe) :: pn) ∧ Zc (.ref (G.clA c)) d oe ∧ (∃ vs, oe.data = .fields vs) ∧ G.xn = some (a, d) ∧ XfC X.K (G.clA c) ∧ ∀ f ∈ E.xfs, PySem.W.findIn X.K (.ref (G.clA c)) f = some none
section
variable {X : Cx} {G : GI} {E : SEnv}
theorem RDn.look {ρ : AM} {m : Nat} {F : Hp} : ∀ {fs : List (Str × D)} {vs : List (Str × V)} {f : Str} {d : D}, RDn G ρ m F fs vs → fs.lookup f = some d → ∃ v, vs.lookup f = some v ∧ RD G ρ m F d v
  | [], _, f, d, h, e => by cases e
  | (k, x) :: r, _, f, d, h, e => by
    cases h with
    | @cons _ _ v _ vs a b =>
      rw [List.lookup_cons] at e ⊢
      cases q : f == k with
      | true => rw [q] at e; cases e; exact ⟨v, rfl, a⟩
      | false => rw [q] at e; exact RDn.look b e
theorem pe_xfD (hx : XOk E X G) {e : Expr} {f : Str} {pos : Pos} {A : Ac} (hf : f ∈ E.xfs) (hs : noSup e = true) (he : PE X e (rd G WF A)) : PE X (.Attribute e f pos) (rd G WF (acXf f A)) := by
  obtain ⟨X0, a, oe, pn, d, c, rfl, hz, hfl, hxn, T, hno⟩ := hx.xs
  refine (pe_xf (X := X0) T (hno f hf) hz hfl he (base_of (env := X0.env) hs)).weakL fun σ H Q ⟨ρ, s, h, F, R, r, sr, wp⟩ => ?_
  refine step (L := LD G) r sr wp fun ρ1 h1 F1 d1 v H1 x1 r1 q1 wp1 => ?_
  cases d1 with
  | xn c1 fs =>
    simp only at wp1
    cases e1 : fs.lookup f with
    | none => rw [e1] at wp1; exact wp1.elim
    | some dv =>
      rw [e1] at wp1
      cases q1 with
      | xn0 _ => cases e1
      | xn1 g1 g2 g3 =>
        rw [hxn] at g1
        cases g1
        obtain ⟨w, e2, q2⟩ := g3.look e1
        exact ⟨rfl, rfl, _, _, w, rfl, r1.fr _ _ g2, e2, wp_val r1 wp1 q2⟩
  | _ => exact wp1.elim
mutual
def sE (E : SEnv) : Nat → Expr → Ac
  | 0, _ => acNo
  | n + 1, e => match e with
    | .Constant c _ _ => match c with
      | .none => acC .non
      | .bool b => acC (.bl b)
      | .int i => acC (.int i)
      | .str x => acC (.str x)
      | _ => acNo
    | .Name x _ => if nameOk x = true ∧ visB E.sc x = true then match ixB E.N x with
        | some i => acV i
        | none => acNo
      else acNo
    | .Tuple es _ _ => acN tupP (sL E n es)
    | .Attribute a f _ => if noSup a = true ∧ E.xfs.contains f = true then acXf f (sE E n a) else acNo
    | _ => acNo
def sL (E : SEnv) : Nat → List Expr → AcL
  | 0, _ => fun _ _ => .no
  | n + 1, es => match es with
    | [] => alNil
    | a :: r => if noStar a = true then alCons (sE E n a) (sL E n r) else fun _ _ => .no
end
theorem pa_no {es : List Expr} {W : WX} : PA X es (rdA G W fun _ _ => .no) := ⟨fun _ _ _ _ _ _ _ ⟨_, _, _, _, _, _, _, h⟩ => h.elim⟩
theorem snd_su (hx : XOk E X G) : ∀ n, (∀ e, PE X e (rd G WF (sE E n e))) ∧ ∀ es, PA X es (rdA G WF (sL E n es))
  | 0 => ⟨fun _ => pe_no, fun _ => pa_no⟩
  | n + 1 => by
    obtain ⟨ie, il⟩ := snd_su hx n
    refine ⟨fun e => ?_, fun es => ?_⟩
    · cases e with
      | Constant c k p =>
        cases c with
        | none => exact pe_const pe_non fun _ _ _ => .non
        | bool b => exact pe_const pe_bl fun _ _ _ => .bl b
        | int i => exact pe_const pe_int fun _ _ _ => .int i
        | str x => exact pe_const pe_str fun _ _ _ => .str x
        | _ => exact pe_no
      | Name x p =>
        simp only [sE]
        split
        · rename_i hh
          split
          · rename_i i hi
            exact pe_v (by rw [hx.N]; exact ix_of hi) (by rw [hx.sc]; exact vis_of hh.2) (nameOk1 hh.1) (nameOk2 hh.1)
          · exact pe_no
        · exact pe_no
      | Tuple es k p => exact pe_tupD (il es)
      | Attribute a f p =>
        simp only [sE]
        split
        · rename_i hh
          exact pe_xfD hx (List.contains_iff_mem.mp hh.2) hh.1 (ie a)
        · exact pe_no
      | _ => exact pe_no
    · cases es with
      | nil => exact pa_nilD
      | cons a r =>
        simp only [sL]
        split
        · rename_i hh
          exact pa_consD (ie a) (il r) (star_cons hh)
        · exact pa_no
end
mutual
def sS (E : SEnv) : Nat → Stmt → Sc
  | 0, _ => scNo
  | n + 1, st => match st with
    | .Return v _ => match v with
      | some e => scRet (sE E 20 e)
      | none => scRetN
    | _ => scNo
def sSs (E : SEnv) : Nat → List Stmt → Sc
  | 0, _ => scNo
  | n + 1, sts => match sts with
    | [] => scNx
    | st :: r => scSeq (sS E n st) (sSs E n r)
end
section
variable {X : Cx} {G : GI} {E : SEnv}
theorem snd_suS (hx : XOk E X G) : ∀ n, (∀ st, PS X st (rdS G WF (sS E n st))) ∧ ∀ sts, PSs X sts (rdS G WF (sSs E n sts))
  | 0 => ⟨fun _ => ps_no, fun _ => ⟨fun _ _ _ _ _ _ ⟨_, _, _, _, _, _, _, h⟩ => h.elim⟩⟩
  | n + 1 => by
    obtain ⟨is, iss⟩ := snd_suS hx n
    refine ⟨fun st => ?_, fun sts => ?_⟩
    · cases st with
      | Return v p =>
        cases v with
        | none => exact ps_retND
        | some e => exact ps_retD ((snd_su hx 20).1 e)
      | _ => exact ps_no
    · cases sts with
      | nil => exact pss_nilD
      | cons st r => exact pss_consD (is st) (iss r)
end
end Lo
namespace Lo
open PySem PySem.Spec PyProof.Rows L2 LamX
section
variable {G : GI} {ρ : AM} {h : List O} {F R H : Hp}
theorem Rel.tabPut (r : Rel G ρ h F R H) {P : Addr} {ps : Array Value} {q : Str} (hm : (P, q) ∈ G.tabs) (hu : ∀ p ∈ G.tabs, p.1 = P → p.2 = q) (ht : TriplesOk ps.toList) (hc : ∀ (pos : Pos) (cv : Value), codeAmong pos ps.toList = some cv → ∃ c, cv = .ref c ∧ F c = some (CodeO c q)) : Rel G ρ h F R (upd H P (.tbl ps)) := by
  have nF := r.tb.nF _ hm
  have nR := r.tb.nR _ hm
  have lne : ∀ n, n < h.length → ρ.ob n ≠ P := fun n hn => (r.tb.nL _ hm n _ (List.getElem?_eq_getElem hn)).1
  refine ⟨sub_upd2 r.fr nF, sub_upd2 r.rs nR, r.fR, fun n u z => ?_, r.inj, r.dinj, r.lF, r.lR, fun n hn => by rw [upd_ne (lne n hn)]; exact r.lH n hn, ⟨fun p hp => ?_, r.tb.nF, r.tb.nR, r.tb.nL⟩⟩
  · have hn : n < h.length := (List.getElem?_eq_some_iff.mp z).1
    exact (r.lv n u z).apart (lne n hn) (fun hi => (r.tb.nL _ hm n u z).2 hi) (fun a => upd_ne) (fun a _ => rfl)
  · by_cases hp1 : p.1 = P
    · rw [hp1, hu p hp hp1]
      exact ⟨ps, upd_same, ht, hc⟩
    · obtain ⟨ps', a, b⟩ := r.tb.at_ p hp
      exact ⟨ps', by rw [upd_ne hp1]; exact a, b⟩
theorem upd_swap {H : Hp} {a b : Addr} {x y : HO} (h : a ≠ b) : upd (upd H a x) b y = upd (upd H b y) a x := by
  funext c
  by_cases h1 : c = a
  · subst h1; rw [upd_ne h, upd_same, upd_same]
  · by_cases h2 : c = b
    · subst h2; rw [upd_same, upd_ne h1, upd_same]
    · rw [upd_ne h2, upd_ne h1, upd_ne h1, upd_ne h2]
end
section
variable {X : Cx} {G : GI} {pins : List (Addr × Obj)} {σ : L2.St} {ρ : AM} {h : List O} {F R H : Hp} {s : Shared}
theorem lam_makeD {c P : Addr} {params : Arguments} {body : Expr} {scope : Scope} {pos : Pos} {E : Value → Shared → Prop} {Q : Value → Shared → Prop} (I : Inv X pins σ H s) (r : Rel G ρ h F R H) (TB : TabB X.base X.mg c P) (hcode : X.env.code = .ref c)
    (hm : (P, X.env.qual ++ "<lambda>") ∈ G.tabs) (hu : ∀ p ∈ G.tabs, p.1 = P → p.2 = X.env.qual ++ "<lambda>") (hdef : defaultsOf params X.env = ([], [])) (hfree : ∀ y ∈ scope.names, y.2 = .free → ∃ c, X.env.cells.lookup y.1 = some c)
    (k : ∀ (f c' : Addr) (pm ctv : Value) (H1 F1 : Hp) (s' : Shared), Inv X pins σ H1 s' → Rel G ρ h F1 R H1 → Ext ρ h.length F ρ h.length F1 →
      s'.heap.get? f = some (PySem.W.kla_obj "<lambda>" (X.env.qual ++ "<lambda>") params body scope (cloFrom X.env.cells scope.names []) pm c' ctv) → H1 f = none → f ∉ frs X.stack → F1 c' = some (CodeO c' (X.env.qual ++ "<lambda>")) → Q (.ref f) s') :
    wpAny (model X.prog X.w) X.A (eval (.Lambda params body scope pos) X.env) Q E s := by
  obtain ⟨ps, hP, ht, hc⟩ := r.tb.at_ _ hm
  refine PySem.W.kla_eval hdef ?_
  have bP := TB.bm.keeps I.bk
  have oP : s.heap.get? P = some { cls := .none, data := .fields ps } := I.hok P _ hP
  have nofr : ∀ f, s.heap.objs.size ≤ f → f ∉ frs X.stack := fun f hf z => by
    rcases List.mem_cons.mp (I.stkSub _ z) with e | e
    · have := I.lt
      rw [← e] at this
      exact Nat.lt_irrefl _ (Nat.lt_of_lt_of_le this hf)
    · exact I.nofs hf e
  cases e0 : codeAmong pos ps.toList with
  | some cv =>
    obtain ⟨c', e1, hF⟩ := hc pos cv e0
    subst e1
    refine PySem.W.kla_makeFunctionHit (mg := X.mg) (c := c) (P := P) (ps := ps) (closure_ok hfree) I.ok.glob (I.mod.glob.keeps I.bk) hcode (TB.code.keeps I.bk) oP ht e0 bP fun ctv h' tk hx hsz => ?_
    exact k h'.objs.size c' _ ctv H F _ (I.kept fun b o e => Heap.get?_push_of_some _ (hx b o e)) r (Ext.refl _ _ _) (Heap.get?_push_size _ rfl) (I.hok.fresh hsz) (nofr _ hsz) hF
  | none =>
    refine PySem.W.kla_makeFunction (mg := X.mg) (c := c) (P := P) (ps := ps) (closure_ok hfree) I.ok.glob (I.mod.glob.keeps I.bk) hcode (TB.code.keeps I.bk) oP ht e0 TB.gP bP fun c' ctv h' tk hx hge hlt hrec htb => ?_
    obtain ⟨c2, oc, vs, t, e2, hoc, hd, hv⟩ := hrec
    cases e2
    have hsz : s.heap.objs.size ≤ h'.objs.size := by omega
    have nC : H c' = none := I.hok.fresh hge
    have I1 := inv_table (t' := tk) (more := #[rawInt pos.line, rawInt pos.col, .ref c']) (h' := h'.push (PySem.W.kla_obj "<lambda>" (X.env.qual ++ "<lambda>") params body scope (cloFrom X.env.cells scope.names []) ((X.mg "__name__").getD .none) c' ctv)) I hP
      (fun b o hb e => Heap.get?_push_of_some _ (hx b o hb e)) (Heap.get?_push_of_some _ htb) hge ⟨oc, vs, t, Heap.get?_push_of_some _ hoc, hd, hv⟩
    have nPc : P ≠ c' := r.tb.ne nC hm
    obtain ⟨r1, x1⟩ := r.frz (CodeO c' (X.env.qual ++ "<lambda>")) nC
    have eL : (ps ++ #[rawInt pos.line, rawInt pos.col, .ref c']).toList = ps.toList ++ [rawInt pos.line, rawInt pos.col, .ref c'] := by simp
    have r2 := r1.tabPut (ps := ps ++ #[rawInt pos.line, rawInt pos.col, .ref c']) hm hu (by rw [eL]; exact PySem.TriplesOk_snoc _ _ _ _ ht) fun p' cv hcv => by
      rw [eL] at hcv
      rcases among_app _ ht hcv with z | z
      · obtain ⟨c0, a1, a2⟩ := hc p' cv z
        exact ⟨c0, a1, x1.sub.get a2 codeO_dK⟩
      · exact ⟨c', z, upd_same⟩
    rw [upd_swap (Ne.symm nPc)] at r2
    refine k h'.objs.size c' _ ctv _ _ _ I1 r2 x1 (Heap.get?_push_size _ rfl) ?_ (nofr _ hsz) upd_same
    have n2 : h'.objs.size ≠ P := fun z => by
      have := Heap.lt_size oP
      rw [← z] at this
      exact Nat.lt_irrefl _ (Nat.lt_of_lt_of_le this hsz)
    rw [upd_ne (Nat.ne_of_gt hlt), upd_ne n2]
    exact I.hok.fresh hsz
end
inductive LKd where
  | drop
  | ret
def resT : Out → Res D
  | .rt d h => .ok d h
  | .ex c fs _ h => .ex c fs h
  | _ => .no
def acTold (sub : Nat → Nat → Option Bool) (n : Nat) (kd : LKd) (ks : List Hdl) (A : Ac) : Ac := fun s h => match A s h with
  | .ok d h1 => match kd with
    | .drop => .ok .non h1
    | .ret => .ok d h1
  | .ex c fs h1 => resT (tryH sub c fs (List.replicate n none) h1 ks)
  | .no => .no
inductive LBody (a : Str) (hds : List ExceptHandler) : LKd → List Stmt → Prop
  | drop {p1 p2 p3 p4 p5 p6 : Pos} {j : Nat} : LBody a hds .drop [.Try [.Expr (.Call (.Name a p1) [] [] p2) p3] hds [] [] p4, .Return (some (.Constant .none j p5)) p6]
  | ret {p1 p2 p3 p4 : Pos} : LBody a hds .ret [.Try [.Return (some (.Call (.Name a p1) [] [] p2)) p3] hds [] [] p4]
theorem takes_len {X : Cx} {W : WX} {n : Nat} (hn : X.N.length = n) (t : Takes X W) : Takes X (fun c d σ H => σ.length = n → W c d σ H) := fun u s' ⟨a, B, sI, pins, σ, H, cls, d, e, I, nb, up, sky, na, os, ag, w⟩ =>
  t u s' ⟨a, B, sI, pins, σ, H, cls, d, e, I, nb, up, sky, na, os, ag, w (I.len.trans hn)⟩
section
variable {X : Cx} {G : GI} {W : WX} {xok : Nat → Bool}
theorem srel_none {ρ : AM} {m : Nat} {F : Hp} {n : Nat} {σ : L2.St} (h : σ.length = n) : SRel G ρ m F (List.replicate n none) σ := ⟨by simp [h], fun i d e => by
  rw [List.getElem?_replicate] at e
  split at e <;> cases e⟩
theorem pe_told (hxn : G.xn = none) {x a : Str} {g c P : Addr} {k : Nat} {pg : Arguments} {bg : List Stmt} {sg : Scope} {dV kV doc pm cdv ct oc : Value} {an od : Option Addr} {osl : Array (Option Value)} {Ng : List Str} {hds : List ExceptHandler} {h₀ : ExceptHandler} {kd : LKd} {ks : List Hdl} {sub : Nat → Nat → Option Bool}
    {params : Arguments} {body : Expr} {scope : Scope} {A : Ac} {p lpos pos : Pos} (tk : Takes X W) (hg : Gl X x) (hm : X.mg x = some (.ref g)) (hk : PySem.W.keepIn X.K (.ref g) = true)
    (lk : X.K.lookup g = some ⟨oc, od, .func (PySem.W.fnOf x x pg bg sg dV kV doc pm an cdv ct), osl⟩) (hcg : PySem.W.codeIn X.K cdv x = true) (hb : L2.Binds X.K (PySem.W.fnOf x x pg bg sg dV kV doc pm an cdv ct) [a] []) (Sg : FnScope Ng [a] sg) (hNg : Ng[0]? = some a) (hva : Vis sg a)
    (hB : LBody a (h₀ :: hds) kd bg ∨ ∃ z j p p' b, bg = .Expr (.Constant (.str z) j p) p' :: b ∧ LBody a (h₀ :: hds) kd b) (hsub : ∀ c c' b, sub c c' = some b → PySem.W.exmOne X.K (.ref (G.clA c)) (.ref (G.clA c')) = some b ∧ xok c = true)
    (hh : ∀ (s : Shared) (H : Hp) (E : XK), HdsD (cxOf (CX X.prog X.w) X.prog X.w X.K X.mg X.base Ng x sg g cdv X.A X.stack s H E) G xok (h₀ :: hds) ks)
    (TB : TabB X.base X.mg c P) (hcode : X.env.code = .ref c) (hmT : (P, X.env.qual ++ "<lambda>") ∈ G.tabs) (hu : ∀ p ∈ G.tabs, p.1 = P → p.2 = X.env.qual ++ "<lambda>") (hr : Room (k + 2) X.A) (L : LamS X.env.scope scope) (hdef : defaultsOf params X.env = ([], []))
    (hbind : ∀ (q : Str) (cl : List (Str × Addr)) (pm cv ctv : Value), bindArgs (PySem.W.kla_fn "<lambda>" q params body scope cl pm cv ctv) ⟨[], []⟩ = pure [])
    (hbody : ∀ (A' : Around) (outer : List Env) (s : Shared) (H : Hp) (E : XK) (f c' : Addr), Room k (A'.deeper (lamEnv X scope s.heap.objs.size f c')) → PE (lamCx X A' outer s H E scope f c') body (rd G (fun c d _ H => E c d H) A))
    (hdb : (x == ("__debug__" : Str)) = false) (hd : (a == ("__debug__" : Str)) = false) (hcd : (a == ("__classdict__" : Str)) = false) :
    PE X (.Call (.Name x p) [.Lambda params body scope lpos] [] pos) (rd G W (acTold sub Ng.length kd ks A)) := by
  refine ⟨fun pins s σ H Q I hq => ?_⟩
  obtain ⟨ρ, sl, h, F, R, r, sr, wp⟩ := hq
  refine wpAny_Call_Name_kw (ld_glob I hg hm ?_ hdb)
  refine PySem.W.callWith_K (h₀ := X.base) I.ok.mod.kin hk ?_ (by rfl) (by rfl)
  show wpAny _ _ (spliced ((false, eval (.Lambda params body scope lpos) X.env) :: backTo pos (starEach [] X.env))) _ _ s
  refine Calls.spliced_cons (lam_makeD I r TB hcode hmT hu hdef (L.has I.ok) fun f c' pm' ctv H1 F1 s' I1 r1 x1 hf hfn hfr hco => ?_)
  refine Calls.spliced_nil ⟨I1.kIn, ?_⟩
  have rc : codeAny (model X.prog X.w) X.A (.call (.ref g) ⟨[.ref f], []⟩) (CR (CX X.prog X.w) X.stack X.prog X.w H1 s' Q (fun c d H => W c d σ H)) s' := by
    refine run_ofS (N := Ng) (ps := [a]) (us := [.ref f]) (vs := [.ref f]) lk hcg Sg hr I1.env0 (hb s' [.ref f] I1.kIn rfl) (.cons rfl .nil) rfl fun hr' => ?_
    have hX := hh s' H1 (fun c d H => W c d σ H)
    have tkg : Takes (cxOf (CX X.prog X.w) X.prog X.w X.K X.mg X.base Ng x sg g cdv X.A X.stack s' H1 (fun c d H => W c d σ H)) (fun cls d _ H => W cls d σ H) := takes_of (E₁ := fun e' s'' => CX X.prog X.w X.stack H1 s' (fun c d H => W c d σ H) e' s'') rfl rfl rfl rfl
    have act : ∀ (W2 : WX) (pn : List (Addr × Obj)) (xe : Value → Shared → Prop) (p1 p2 : Pos), Takes ((cxOf (CX X.prog X.w) X.prog X.w X.K X.mg X.base Ng x sg g cdv X.A X.stack s' H1 (fun c d H => W c d σ H)).tr pn xe) W2 →
        PE ((cxOf (CX X.prog X.w) X.prog X.w X.K X.mg X.base Ng x sg g cdv X.A X.stack s' H1 (fun c d H => W c d σ H)).tr pn xe) (.Call (.Name a p1) [] [] p2)
          (fun σZ HZ Q => σZ[0]? = some (some (.ref f)) ∧ HZ c' = some (CodeO c' (X.env.qual ++ "<lambda>")) ∧ rd G (fun c d _ H => ∀ σ', σ'.length = Ng.length → W2 c d σ' H) A σ HZ Q) := fun W2 pn xe p1 p2 t2 =>
      pe_act (E := fun c d H => ∀ σ', σ'.length = Ng.length → W2 c d σ' H) (i := 0) I1 L hf hfn hfr (hbind _ _ _ _ _) (takes_len (n := Ng.length) rfl t2) (fun cls d σ' H' z hl => z σ' hl) hr' (fun A' outer s H hr2 => hbody A' outer s H _ f c' hr2) hNg hva hd hcd
    have c1 : H1 c' = some (CodeO c' (X.env.qual ++ "<lambda>")) := r1.fr _ _ hco
    have s0 : (L2.start Ng [V.ref f])[0]? = some (some (V.ref f)) := start_at rfl
    -- an exception of the lambda meets the clauses
    have exc : ∀ (N : Ends) (ce : Nat) (fs : List (Str × D)) (h1 : List O), A sl h = .ex ce fs h1 → N.rt = Q → ∀ ρ' F' cls dd H', Ext ρ h.length F1 ρ' h1.length F' → Rel G ρ' h1 F' R H' → RX G ρ' h1.length F' ce fs cls dd → ∀ σ', σ'.length = Ng.length →
        wMix X.K (fun cls d _ H => W cls d σ H) N (ks.map (clzOf G xok)) cls dd σ' H' := fun N ce fs h1 eA hN ρ' F' cls dd H' x' r' q' σ' hl => by
      have wp2 : Wp G (LD G) W R ρ h.length F (resT (tryH sub ce fs (List.replicate Ng.length none) h1 ks)) σ Q := by
        have := wp
        unfold acTold at this
        rw [eA] at this
        exact this
      refine mix_of (s := List.replicate Ng.length none) (h := h1) hxn hsub (R := R) (ρ := ρ) (m := h.length) (F := F) ?_ ρ' F' cls dd σ' H' (x1.trans x') r' (srel_none hl) q'
      cases eo : tryH sub ce fs (List.replicate Ng.length none) h1 ks with
      | rt d h2 =>
        rw [eo] at wp2
        intro ρ3 F3 v H3 x3 r3 q3
        rw [hN]
        exact wp2 ρ3 F3 v H3 x3 r3 q3
      | ex c2 fs2 s2 h2 =>
        rw [eo] at wp2
        exact fun ρ3 F3 cls3 dd3 σ3 H3 x3 r3 _ q3 => wp2 ρ3 F3 cls3 dd3 H3 x3 r3 q3
      | nx _ _ => rw [eo] at wp2; exact wp2.elim
      | bk _ _ => rw [eo] at wp2; exact wp2.elim
      | ct _ _ => rw [eo] at wp2; exact wp2.elim
      | no => rw [eo] at wp2; exact wp2.elim
    have main : ∀ b, LBody a (h₀ :: hds) kd b → ∃ t, PSs (cxOf (CX X.prog X.w) X.prog X.w X.K X.mg X.base Ng x sg g cdv X.A X.stack s' H1 (fun c d H => W c d σ H)) b t ∧ t { nx := fun _ H' => Q .non H', rt := Q } (L2.start Ng [.ref f]) H1 := ?main
    · rcases hB with hB | ⟨z, j, p, p', b, e, hB⟩
      · exact main _ hB
      · subst e
        obtain ⟨t, h1, h2⟩ := main _ hB
        exact ⟨_, pss_cons ps_doc h1, h2⟩
    intro b hB
    cases hB with
    | drop =>
      refine ⟨_, pss_cons (ps_tryX (X := cxOf (CX X.prog X.w) X.prog X.w X.K X.mg X.base Ng x sg g cdv X.A X.stack s' H1 (fun c d H => W c d σ H)) Sg.nd rfl rfl tkg (fun W2 pn xe t2 _ => pss_one (ps_expr (act W2 pn xe _ _ t2))) (hdsX_of hX)) (pss_one (ps_ret pe_non)), ?_⟩
      refine ⟨s0, c1, ρ, sl, h, F1, R, r1, sr.mono x1, ?_⟩
      have wp := wp
      unfold acTold at wp
      cases eA : A sl h with
      | ok d h1 =>
        rw [eA] at wp
        intro ρ' F' v H' x' r' q'
        exact wp ρ' F' .non H' (x1.trans x') r' .non
      | ex ce fs h1 => exact fun ρ' F' cls dd H' x' r' q' σ' hl => exc _ ce fs h1 eA rfl ρ' F' cls dd H' x' r' q' σ' hl
      | no => rw [eA] at wp; exact wp
    | ret =>
      refine ⟨_, pss_one (ps_tryX (X := cxOf (CX X.prog X.w) X.prog X.w X.K X.mg X.base Ng x sg g cdv X.A X.stack s' H1 (fun c d H => W c d σ H)) Sg.nd rfl rfl tkg (fun W2 pn xe t2 _ => pss_one (ps_ret (act W2 pn xe _ _ t2))) (hdsX_of hX)), ?_⟩
      refine ⟨s0, c1, ρ, sl, h, F1, R, r1, sr.mono x1, ?_⟩
      have wp := wp
      unfold acTold at wp
      cases eA : A sl h with
      | ok d h1 =>
        rw [eA] at wp
        intro ρ' F' v H' x' r' q'
        exact wp ρ' F' v H' (x1.trans x') r' q'
      | ex ce fs h1 => exact fun ρ' F' cls dd H' x' r' q' σ' hl => exc _ ce fs h1 eA rfl ρ' F' cls dd H' x' r' q' σ' hl
      | no => rw [eA] at wp; exact wp
  refine wpAny_call (codeAny_mono rc fun r s2 hq => ?_)
  cases r with
  | error e => exact tk e s2 (XE.of_call I1 (fun _ _ _ z => z) hq)
  | ok fl =>
    cases fl with
    | ret u => exact I1.after hq
    | next => exact False.elim hq
    | brk => exact False.elim hq
    | cont => exact False.elim hq
end
end Lo
namespace LoOin
open PySem PySem.SeqAt
open AutoSeq1 (wpAny_loadPart')
open MeetsSeq MeetsSeq2 MeetsSeq3 SeqRoads2
def Go (prog : Program) (w : World) (A : Around) (E : Value → Shared → Prop) (l : Addr) (o : Obj) (x : Value) (Q : Option Nat → Shared → Prop) : Nat → List Value → Shared → Prop
  | _, [], s => Q none s
  | i, y :: r, s => wpAny (model prog w) A.in1 (eqBool y x) (fun b s' => (b = true ∧ Q (some i) s') ∨ (b = false ∧ s'.heap.get? l = some o ∧ Go prog w A E l o x Q (i + 1) r s')) E s
theorem go_mono {prog : Program} {w : World} {A : Around} {E : Value → Shared → Prop} {l : Addr} {o : Obj} {x : Value} {Q Q' : Option Nat → Shared → Prop} (m : ∀ b s, Q b s → Q' b s) : ∀ {i : Nat} {ys : List Value} {s : Shared}, Go prog w A E l o x Q i ys s → Go prog w A E l o x Q' i ys s
  | _, [], _, h => m _ _ h
  | _, _ :: _, _, h => wpAny_mono h (fun b s' hb => by
      rcases hb with ⟨e, q⟩ | ⟨e, hl, q⟩
      · exact .inl ⟨e, m _ _ q⟩
      · exact .inr ⟨e, hl, go_mono m q⟩) fun _ _ z => z
section
variable {prog : Program} {w : World} {A : Around} {R : Result → Shared → Prop}
theorem in_loop (l : Addr) (items : Array Value) (n : Nat) (dd : Option Addr) (sl : Array (Option Value)) (x : Value) (k : Nat) :
    ∀ (i : Nat) (s : Shared), items.size - i = k → s.heap.get? l = some { cls := .type "list", dict := dd, data := .seq items n, slots := sl } →
      Go prog w A (fun e s' => R (.error e) s') l { cls := .type "list", dict := dd, data := .seq items n, slots := sl } x (fun b s' => R (.ok (.ret (.bool b.isSome))) s') i (items.toList.drop i) s →
      wpAny (model prog w) A.in1 (Builtin.«list.__contains__.loop» ⟨[.ref l, x, rawInt i], []⟩) (GQ.FinOf prog w A R) (fun e s' => R (.error e) s') s := by
  induction k with
  | zero =>
    intro i s hk hl h
    obtain ⟨hp, g, d, tk, os⟩ := s
    wp_walk using wpAny_loadPart' hl
    have hi : items[((i : Nat) : Int).toNat]? = none := by simp; omega
    have hd : items.toList.drop i = [] := by simp; omega
    rw [hd] at h
    rw [hi]
    wp_walk
    exact h
  | succ k ih =>
    intro i s hk hl h
    obtain ⟨hp, g, d, tk, os⟩ := s
    wp_walk using wpAny_loadPart' hl
    have hlt : i < items.size := by omega
    have hi : items[((i : Nat) : Int).toNat]? = some items[i] := by simp [hlt]
    have hd : items.toList.drop i = items[i] :: items.toList.drop (i + 1) := by simp [List.drop_eq_getElem_cons, hlt]
    rw [hd] at h
    rw [hi]
    refine wpAny_bind (wpAny_mono h (fun b s' hb => ?_) fun _ _ z => z)
    rcases hb with ⟨rfl, q⟩ | ⟨rfl, hl', q⟩
    · obtain ⟨hp, g, d, tk, os⟩ := s'
      wp_walk
      exact q
    · have hc : ((i : Int) + 1) = ((i + 1 : Nat) : Int) := by push_cast; rfl
      have hrec := ih (i + 1) s' (by omega) hl' q
      obtain ⟨hp, g, d, tk, os⟩ := s'
      wp_walk
      rw [hc]
      exact ⟨plainId_quiet plain_contains_loop _, codeAny_builtin entry_contains_loop (by
        rw [Around.under_plainId plain_contains_loop _]
        exact hrec)⟩
theorem index_loop (l : Addr) (items : Array Value) (n : Nat) (dd : Option Addr) (sl : Array (Option Value)) (x : Value) (upto : Int) (hup : (items.size : Int) ≤ upto) (k : Nat) :
    ∀ (i : Nat) (s : Shared), items.size - i = k → s.heap.get? l = some { cls := .type "list", dict := dd, data := .seq items n, slots := sl } →
      Go prog w A (fun e s' => R (.error e) s') l { cls := .type "list", dict := dd, data := .seq items n, slots := sl } x (fun b s' => ∃ j : Nat, b = some j ∧ R (.ok (.ret (.int j s'.toks))) { s' with toks := s'.toks + 1 }) i (items.toList.drop i) s →
      wpAny (model prog w) A.in1 (Builtin.«list.index.loop» ⟨[.ref l, x, rawInt i, rawInt upto], []⟩) (GQ.FinOf prog w A R) (fun e s' => R (.error e) s') s := by
  induction k with
  | zero =>
    intro i s hk hl h
    have hd : items.toList.drop i = [] := by simp; omega
    rw [hd] at h
    obtain ⟨j, hj, _⟩ := h
    cases hj
  | succ k ih =>
    intro i s hk hl h
    obtain ⟨hp, g, d, tk, os⟩ := s
    have hlt : i < items.size := by omega
    have hst : (i : Int) < upto := by omega
    wp_walk using wpAny_loadPart' hl
    have hi : (if (i : Int) < upto then items[((i : Nat) : Int).toNat]? else none) = some items[i] := by simp [hst, hlt]
    have hc : ((i : Int) + 1) = ((i + 1 : Nat) : Int) := by push_cast; rfl
    have hd : items.toList.drop i = items[i] :: items.toList.drop (i + 1) := by simp [List.drop_eq_getElem_cons, hlt]
    rw [hd] at h
    rw [hi]
    refine wpAny_bind (wpAny_mono h (fun b s' hb => ?_) fun _ _ z => z)
    rcases hb with ⟨rfl, j, ej, q⟩ | ⟨rfl, hl', q⟩
    · cases ej
      obtain ⟨hp, g, d, tk, os⟩ := s'
      wp_walk
      exact q
    · have hrec := ih (i + 1) s' (by omega) hl' q
      obtain ⟨hp, g, d, tk, os⟩ := s'
      wp_walk
      rw [hc]
      exact ⟨plainId_quiet plain_index_loop _, codeAny_builtin entry_index_loop (by
        rw [Around.under_plainId plain_index_loop _]
        exact hrec)⟩
end
section
variable {prog : Program} {w : World} {A : Around} {E : Value → Shared → Prop} {s : Shared} {l : Addr} {items : Array Value} {n : Nat} {dd : Option Addr} {sl : Array (Option Value)} {x : Value}
theorem call_in {Q : Value → Shared → Prop} (ho : s.heap.get? l = some { cls := .type "list", dict := dd, data := .seq items n, slots := sl })
    (h : Go prog w A E l { cls := .type "list", dict := dd, data := .seq items n, slots := sl } x (fun b s' => Q (.bool b.isSome) s') 0 items.toList s) :
    wpAny (model prog w) A (call (.builtin "list.__contains__") [.ref l, x]) Q E s := by
  refine GQ.call_here F.slot_list_contains ⟨_, ho, rfl⟩ F.entry_list_contains (F.args_list_contains_2 _ _) ?_
  have hrec := in_loop (prog := prog) (w := w) (A := A) (R := wants Q E) l items n dd sl x _ 0 s rfl ho h
  obtain ⟨hp, g, d, tk, os⟩ := s
  wp_walk using wpAny_loadPart' ho
  exact ⟨plainId_quiet plain_contains_loop _, codeAny_builtin entry_contains_loop (by
    rw [Around.under_plainId plain_contains_loop _]
    exact hrec)⟩
theorem cmp_in {Q : Value → Shared → Prop} (ho : s.heap.get? l = some { cls := .type "list", dict := dd, data := .seq items n, slots := sl })
    (h : Go prog w A E l { cls := .type "list", dict := dd, data := .seq items n, slots := sl } x (fun b s' => Q (.bool b.isSome) s') 0 items.toList s) :
    wpAny (model prog w) A (compareOp .In x (.ref l)) Q E s := by
  show wpAny _ _ (do return .bool (← contains (.ref l) x)) Q E s
  refine wpAny_bind (wpAny_contains_slot ⟨_, ho, rfl⟩ F.slot_list_contains (call_in ho ?_))
  refine go_mono ?_ h
  intro b s' q
  exact wpAny_pure (wpAny_pure q)
theorem cmp_notIn {Q : Value → Shared → Prop} (ho : s.heap.get? l = some { cls := .type "list", dict := dd, data := .seq items n, slots := sl })
    (h : Go prog w A E l { cls := .type "list", dict := dd, data := .seq items n, slots := sl } x (fun b s' => Q (.bool (!b.isSome)) s') 0 items.toList s) :
    wpAny (model prog w) A (compareOp .NotIn x (.ref l)) Q E s := by
  show wpAny _ _ (do return .bool (!(← contains (.ref l) x))) Q E s
  refine wpAny_bind (wpAny_contains_slot ⟨_, ho, rfl⟩ F.slot_list_contains (call_in ho ?_))
  refine go_mono ?_ h
  intro b s' q
  exact wpAny_pure (wpAny_pure q)
theorem call_index {Q : Value → Shared → Prop} (hz : (items.size : Int) ≤ 2 ^ 63 - 1) (ho : s.heap.get? l = some { cls := .type "list", dict := dd, data := .seq items n, slots := sl })
    (h : Go prog w A E l { cls := .type "list", dict := dd, data := .seq items n, slots := sl } x (fun b s' => ∃ j : Nat, b = some j ∧ Q (.int j s'.toks) { s' with toks := s'.toks + 1 }) 0 items.toList s) :
    wpAny (model prog w) A (call (.builtin "list.index") [.ref l, x]) Q E s := by
  refine GQ.call_here F.slot_list_index ⟨_, ho, rfl⟩ F.entry_list_index (F.args_list_index_2 _ _) ?_
  have hrec := index_loop (prog := prog) (w := w) (A := A) (R := wants Q E) l items n dd sl x (2 ^ 63 - 1) hz _ 0 s rfl ho h
  obtain ⟨hp, g, d, tk, os⟩ := s
  wp_walk using wpAny_loadPart' ho
  have a1 : ((fun i : Int => if i < 0 then max 0 (i + (items.size : Int)) else i) ((none : Option Int).getD 0)) = ((0 : Nat) : Int) := by simp
  have a2 : ((fun i : Int => if i < 0 then max 0 (i + (items.size : Int)) else i) ((none : Option Int).getD (2 ^ 63 - 1))) = 2 ^ 63 - 1 := by simp
  rw [a1, a2]
  exact ⟨plainId_quiet plain_index_loop _, codeAny_builtin entry_index_loop (by
    rw [Around.under_plainId plain_index_loop _]
    exact hrec)⟩
end
end LoOin
namespace Lo
open PySem PySem.Spec PyProof.Rows L2
def findO (f : FnD) (c : Nat) (d : D) (h : List O) : List D → Nat → Option (Option Nat)
  | [], _ => some none
  | y :: _, j => if lowDs 0 [y, d] = true ∧ ownB h c y = true then match callM f [y, d] h with
      | .ok (.bl true) _ => some (some j)
      | _ => none
    else none
def inO (o : OwnV) (ng : Bool) : P2 := fun d e h => if ownB h o.c d = true then match o.eq, lstOf h e with
    | some f, some ys => (findO f o.c d h ys 0).map fun r => (.bl (r.isSome != ng), h)
    | _, _ => none
  else if ng = true then notInP d e h else inP d e h
def indexO (o : OwnV) : P1N := fun e ds h => match ds with
  | [d] => if ownB h o.c d = true then match o.eq, lstOf h e with
      | some f, some ys => match findO f o.c d h ys 0 with
        | some (some j) => some (.int j, h)
        | _ => none
      | _, _ => none
    else indexP pdLst e ds h
  | _ => indexP pdLst e ds h
section
variable {X : Cx} {G : GI} {o : OwnV}
theorem eqb_own {C g : Addr} {n : Nat} {sp : Sp} {pins : List (Addr × Obj)} {σ : L2.St} {H : Hp} {s : Shared} {a b dx dy : Addr} {vs ws : List (Option V)} {k : Bool} {E' : Value → Shared → Prop} {Qb : Bool → Shared → Prop} (I : Inv X pins σ H s) (ha : SlX.Slt H a C dx vs) (hb : SlX.Slt H b C dy ws)
    (hs : PySem.W.findIn X.K (.ref C) "__eq__" = some (some (.ref g))) (hf : PySem.W.isFn X.K (.ref g) = true) (F : FnR X.prog X.w X.K X.mg X.base (CX X.prog X.w) n g sp) (hr : Room (n + 1) X.A)
    (same : a = b → Qb true s) {P : VK} (q : sp [.ref a, .ref b] H (fun v H' => v = .bl k ∧ P v H') (fun _ _ _ => False)) (go : ∀ H' s', Inv X pins σ H' s' → P (.bl k) H' → Qb k s') :
    wpAny (model X.prog X.w) X.A.in1 (eqBool (.ref a) (.ref b)) Qb E' s := by
  by_cases hab : a = b
  · subst hab
    unfold eqBool
    refine wpAny_holding ?_
    simp only [beq_self_eq_true, if_true]
    exact wpAny_bind (wpAny_rule (wpAny_pure (same rfl)))
  · obtain ⟨sl, od, _, J, _⟩ := SlX.slt_inst I ha
    obtain ⟨sl', od', _, J', _⟩ := SlX.slt_inst I hb
    obtain ⟨m, hF⟩ := I.fr
    refine GQ.eqBool_refG hab (PySem.W.cmp_K (op := .Eq) (tb := .ref C) hr.in1.units0 hF I.ok.mod.kin J J'.type (by simp [PySem.W.notFirst]) hs hf ?_)
    refine wpAny_mono (run_in1 (us := [.ref a, .ref b]) (vs := [.ref a, .ref b]) F hr I (.cons rfl (.cons rfl .nil)) q) (fun w s' z => ?_) fun _ _ x => x
    obtain ⟨z', H', I', rz, ez, qz⟩ := z
    subst ez
    obtain rfl : w = Value.bool k := rz
    exact SlX.cmpback (z := .bl k) rfl ⟨k, rfl, go H' s' I' qz⟩
theorem low_ok {f : FnD} {ds : List D} {h h' : List O} {d : D} (hl : lowDs 0 ds = true) (e : callM f ds h = .ok d h') : h' = h := by
  unfold callM at e
  rw [if_pos hl] at e
  cases e1 : f ds [] with
  | no => rw [e1] at e; cases e
  | ex _ _ _ => rw [e1] at e; simp only [setR] at e; split at e <;> cases e
  | ok z h1 =>
    rw [e1] at e
    simp only [setR] at e
    split at e
    · cases e; rfl
    · cases e
theorem go_of {f : FnD} (ok : OwnOk X G o) (ef : o.eq = some f) {ρ : AM} {h : List O} {F R H : Hp} {pins : List (Addr × Obj)} {σ : L2.St} {s : Shared} {l : Addr} {ob : Obj} {d : D} {b : Addr} {ys : List D} {vs : List V} {us : List Value} {E : Value → Shared → Prop} {Q : Option Nat → Shared → Prop} {res : Option Nat}
    (I : Inv X pins σ H s) (r : Rel G ρ h F R H) (q : RD G ρ h.length F d (.ref b)) (hd : ownB h o.c d = true) (qs : RDs G ρ h.length F ys vs) (vu : Vals vs us) (e : findO f o.c d h ys 0 = some res)
    (fin : ∀ ρ' F' H' s', Ext ρ h.length F ρ' h.length F' → Rel G ρ' h F' R H' → Inv X pins σ H' s' → Q res s') : LoOin.Go X.prog X.w X.A E l ob (.ref b) Q 0 us s := by
  cases qs with
  | nil =>
    cases vu
    simp only [findO] at e
    cases e
    exact fin ρ F H s (Ext.refl _ _ _) r I
  | @cons y v _ _ qy qr =>
    cases vu with
    | @cons _ u _ _ hu _ =>
      simp only [findO] at e
      split at e
      case isFalse => cases e
      rename_i hy
      cases ec : callM f [y, d] h with
      | no => rw [ec] at e; cases e
      | ex _ _ _ => rw [ec] at e; cases e
      | ok z h' =>
        rw [ec] at e
        have eh := low_ok hy.1 ec
        subst eh
        obtain ⟨g, n, h1, h2, h3, Fn, hr⟩ := ok.eq f ef
        obtain ⟨a, dx, ws, ev, hsl⟩ := own_slt r qy hy.2
        obtain ⟨b', dy, ws', ev2, hsl2⟩ := own_slt r q hd
        cases ev2
        subst ev
        obtain rfl : u = Value.ref a := hu
        match z, e, ec with
        | .bl true, e, ec =>
          cases e
          refine eqb_own (k := true) (P := fun _ H' => ∃ ρ' F', Ext ρ h'.length F ρ' h'.length F' ∧ Rel G ρ' h' F' R H') I hsl hsl2 h1 h2 Fn hr (fun _ => .inl ⟨rfl, fin ρ F H s (Ext.refl _ _ _) r I⟩) (call_of r (.cons qy (.cons q .nil)) rfl ?_) fun H' s' I' ⟨ρ', F', x', r'⟩ => .inl ⟨rfl, fin ρ' F' H' s' x' r' I'⟩
          rw [ec]
          intro ρ' F' v' H' x' r' q'
          cases q'
          exact ⟨rfl, ρ', F', x', r'⟩
theorem or_inO (hK : X.K = G.K) (hu : X.A.units + 65 < cLine) (ok : OwnOk X G o) : OpR X (compareOp .In) (rop G (inO o false)) := by
  intro pins s σ H x y v u Q I rx ry h
  obtain ⟨ρ, h0, F, R, d, e, r, q1, q2, wp⟩ := h
  unfold inO at wp
  split at wp
  case isFalse => exact or_in hK hu pins s σ H x y v u Q I rx ry ⟨ρ, h0, F, R, d, e, r, q1, q2, wp⟩
  rename_i hb
  cases ef : o.eq with
  | none => rw [ef] at wp; exact wp.elim
  | some f =>
    cases el : lstOf h0 e with
    | none => rw [ef, el] at wp; exact wp.elim
    | some ys =>
      rw [ef, el] at wp
      simp only at wp
      cases er : findO f o.c d h0 ys 0 with
      | none => rw [er] at wp; exact wp.elim
      | some res =>
        rw [er] at wp
        obtain ⟨b, dx, ws, ev, hsl⟩ := own_slt r q1 hb
        subst ev
        obtain rfl : v = Value.ref b := rx
        obtain ⟨l, vs, ey, hs, qs⟩ := lst_sq r el q2
        subst ey
        obtain rfl : u = Value.ref l := ry
        rw [← hK] at hs
        obtain ⟨its, rv, ⟨⟨cls, dd, data, sl⟩, n, ho, hc, hdn, hd⟩, hlen⟩ := I.list hs
        simp only at hc hd
        subst hc hd
        refine LoOin.cmp_in ho (go_of ok ef I r q1 hb qs rv er fun ρ' F' H' s' x' r' I' => ?_)
        refine ⟨.bl res.isSome, H', I', rfl, ?_⟩
        have := wp ρ' F' _ H' x' r' (.bl _)
        simpa using this
theorem or_notInO (hK : X.K = G.K) (hu : X.A.units + 65 < cLine) (ok : OwnOk X G o) : OpR X (compareOp .NotIn) (rop G (inO o true)) := by
  intro pins s σ H x y v u Q I rx ry h
  obtain ⟨ρ, h0, F, R, d, e, r, q1, q2, wp⟩ := h
  unfold inO at wp
  split at wp
  case isFalse => exact or_notIn hK hu pins s σ H x y v u Q I rx ry ⟨ρ, h0, F, R, d, e, r, q1, q2, wp⟩
  rename_i hb
  cases ef : o.eq with
  | none => rw [ef] at wp; exact wp.elim
  | some f =>
    cases el : lstOf h0 e with
    | none => rw [ef, el] at wp; exact wp.elim
    | some ys =>
      rw [ef, el] at wp
      simp only at wp
      cases er : findO f o.c d h0 ys 0 with
      | none => rw [er] at wp; exact wp.elim
      | some res =>
        rw [er] at wp
        obtain ⟨b, dx, ws, ev, hsl⟩ := own_slt r q1 hb
        subst ev
        obtain rfl : v = Value.ref b := rx
        obtain ⟨l, vs, ey, hs, qs⟩ := lst_sq r el q2
        subst ey
        obtain rfl : u = Value.ref l := ry
        rw [← hK] at hs
        obtain ⟨its, rv, ⟨⟨cls, dd, data, sl⟩, n, ho, hc, hdn, hd⟩, hlen⟩ := I.list hs
        simp only at hc hd
        subst hc hd
        refine LoOin.cmp_notIn ho (go_of ok ef I r q1 hb qs rv er fun ρ' F' H' s' x' r' I' => ?_)
        refine ⟨.bl (!res.isSome), H', I', rfl, ?_⟩
        have := wp ρ' F' _ H' x' r' (.bl _)
        simpa using this
theorem mt_indexO (hK : X.K = G.K) (hu : X.A.units + 65 < cLine) (ok : OwnOk X G o) : MtR X "list.index" (run1N G (indexO o)) := by
  intro pins s σ H x xs v us Q I rx rs hq
  obtain ⟨ρ, h, F, R, e, ds, r, q1, q2, wp⟩ := hq
  have els : Wp G (LD G) W0 R ρ h.length F (Res.of (indexP pdLst e ds h)) [] Q → wpAny (model X.prog X.w) X.A (call (.builtin "list.index") (v :: us)) (EP X pins σ Q) X.xe s := fun wp => mt_lindexD hK hu pins s σ H x xs v us Q I rx rs ⟨ρ, h, F, R, e, ds, r, q1, q2, wp⟩
  match ds, q2, wp, els with
  | [], q2, wp, els => exact els wp
  | _ :: _ :: _, q2, wp, els => exact els wp
  | [d], q2, wp, els =>
    simp only [indexO] at wp
    split at wp
    case isFalse => exact els wp
    rename_i hb
    obtain ⟨w, rfl, qw⟩ := rds1 q2
    cases ef : o.eq with
    | none => rw [ef] at wp; exact wp.elim
    | some f =>
      cases el : lstOf h e with
      | none => rw [ef, el] at wp; exact wp.elim
      | some ys =>
        rw [ef, el] at wp
        simp only at wp
        cases er : findO f o.c d h ys 0 with
        | none => rw [er] at wp; exact wp.elim
        | some res =>
          rw [er] at wp
          cases res with
          | none => exact wp.elim
          | some j =>
            simp only at wp
            obtain ⟨b, dx, ws, ev, hsl⟩ := own_slt r qw hb
            subst ev
            obtain ⟨u, rfl, ru⟩ := vals1 rs
            obtain rfl : u = Value.ref b := ru
            obtain ⟨l, vs, ey, hs, qs⟩ := lst_sq r el q1
            subst ey
            obtain rfl : v = Value.ref l := rx
            rw [← hK] at hs
            obtain ⟨its, rv, ⟨⟨cls, dd, data, sl⟩, n, ho, hc, hdn, hd⟩, hlen⟩ := I.list hs
            simp only at hc hd
            subst hc hd
            have hsl' := sizeLine_eq
            have hvl := rv.length
            refine LoOin.call_index (by simp; omega) ho (go_of ok ef I r qw hb qs rv er fun ρ' F' H' s' x' r' I' => ⟨j, rfl, ?_⟩)
            exact ⟨.int j, H', I'.tok _, ⟨_, rfl⟩, wp ρ' F' _ H' x' r' (.int _)⟩
end
end Lo
namespace Lo
open PySem PySem.Spec PyProof.Rows L2
theorem wpAny_assign_Attr {M : Model} {A : Around} {E : Value → Shared → Prop} {s : Shared} {env : Env} {o : Expr} {attr : Str} {pos' : Pos} {v : Value} {Q : Unit → Shared → Prop}
    (h : wpAny M A (eval o env) (fun ov s₂ => wpAny M A (setAttr ov attr v) (fun _ => Q ()) E s₂) E s) : wpAny M A (assign (.Attribute o attr pos') env v) Q E s := fun Γ p hΓ => by
  simp only [assign_Attribute, Sem.wp_bind', Sem.wp_holding, Sem.wp_cmd_standAt, Sem.wp_release, Sem.wp_pure']
  exact Sem.wp_mono M Γ _ (fun ov _ s₂ h₂ => h₂ Γ _ hΓ) (fun _ _ _ h' => h') _ _ (h Γ _ hΓ)
def scAtt2 (T1 : ATab) (f1 : Str) (A1 : Ac) (T2 : ATab) (f2 : Str) (A2 V : Ac) : Sc := fun s h => (V s h).bindS s fun d h1 => match d with
  | .tup [x, y] => (A1 s h1).bindS s fun o h2 => match setA T1 f1 o x h2 with
    | some h3 => (A2 s h3).bindS s fun o2 h4 => match setA T2 f2 o2 y h4 with
      | some h5 => .nx s h5
      | none => .no
    | none => .no
  | _ => .no
section
variable {X : Cx} {G : GI} {W : WX} {f : Str} {T : ATab}
theorem setA_ok (hT : ∀ c k, T c = some k → AOk X G c f k) {pins : List (Addr × Obj)} {σ : L2.St} {H : Hp} {s : Shared} {ρ : AM} {h h3 : List O} {F R : Hp} {d e : D} {x y : V} {ov u : Value} {Q : L2.St → Hp → Prop} (I : Inv X pins σ H s) (rx : RelV x ov) (ry : RelV y u)
    (r : Rel G ρ h F R H) (qd : RD G ρ h.length F d y) (qe : RD G ρ h.length F e x) (hs : setA T f e d h = some h3) (k : ∀ H', h3.length = h.length → Rel G ρ h3 F R H' → Q σ H') :
    wpAny (model X.prog X.w) X.A (setAttr ov f u) (fun _ s' => ∃ σ' H', Inv X pins σ' H' s' ∧ Q σ' H') X.xe s := by
  cases e with
  | loc n =>
    cases qe with
    | loc _ hn =>
      obtain rfl : ov = Value.ref (ρ.ob n) := rx
      simp only [setA] at hs
      cases e0 : h[n]? with
      | none => rw [e0] at hs; cases hs
      | some ob =>
        rw [e0] at hs
        cases ob with
        | ins c fs =>
          simp only at hs
          cases ek : T c with
          | none => rw [ek] at hs; cases hs
          | some kk =>
            rw [ek] at hs
            cases hT c kk ek with
            | fld _ _ => cases hs
            | prop _ _ _ _ _ _ _ => cases hs
            | slot sc st =>
              rename_i i p
              cases hs
              obtain ⟨vs, h1, h2, _⟩ := r.lv n _ e0
              exact SlX.setslot_ok I h1 sc st ry fun s3 I3 => ⟨σ, _, I3, k _ List.length_set (r.putIns (i := i) e0 h1 h2 qd)⟩
        | ind c fs =>
          simp only at hs
          cases ek : T c with
          | none => rw [ek] at hs; cases hs
          | some kk =>
            rw [ek] at hs
            cases hT c kk ek with
            | slot _ _ => cases hs
            | prop _ _ _ _ _ _ _ => cases hs
            | fld cl na =>
              simp only at hs
              by_cases hz : fs.length < 1000
              case pos =>
                rw [if_pos hz] at hs
                cases hs
                obtain ⟨dx, vs, h1, h2⟩ := r.lv n _ e0
                exact setattr_ok I h1 cl na (by rw [← h2.length]; exact hz) ry fun s3 I3 => ⟨σ, _, I3, k _ List.length_set (r.put (o := .ind c (putFD f d fs)) (u := .ins (G.clA c) dx (putF f y vs)) rfl hn ⟨dx, _, upd_same, h2.put qd⟩)⟩
              case neg => rw [if_neg hz] at hs; cases hs
        | lst _ => cases hs
        | dic _ => cases hs
  | _ => cases hs
def gAt (G : GI) (W : WX) (T : ATab) (f : Str) (A : Ac) : TG := fun v σ H Q => rd G W A σ H fun x H2 => ∃ ρ h F R d e h3, Rel G ρ h F R H2 ∧ RD G ρ h.length F d v ∧ RD G ρ h.length F e x ∧ setA T f e d h = some h3 ∧ ∀ H', h3.length = h.length → Rel G ρ h3 F R H' → Q σ H'
theorem pg_at {o : Expr} {A : Ac} {pos' : Pos} (hT : ∀ c k, T c = some k → AOk X G c f k) (ha : PE X o (rd G W A)) : PG X (.Attribute o f pos') (gAt G W T f A) :=
  ⟨fun pins s σ H v u Q I r hq => wpAny_assign_Attr (thn (ha.run pins s σ H _ I hq) fun ov s2 ⟨x, H2, I2, rx, ρ, h, F, R, d, e, h3, r2, qd, qe, hs, k⟩ => setA_ok hT I2 rx r r2 qd qe hs k)⟩
theorem RDs.head_ex {ρ : AM} {m : Nat} {F : Hp} {d : D} {ds : List D} {vs : List V} (q : RDs G ρ m F (d :: ds) vs) : ∃ v r, vs = v :: r ∧ RD G ρ m F d v ∧ RDs G ρ m F ds r := by
  cases q with
  | cons a b => exact ⟨_, _, rfl, a, b⟩
theorem ps_att2 {T2 : ATab} {f2 : Str} {o1 o2 value : Expr} {A1 A2 V : Ac} {q1 q2 tp pos : Pos} {kt : Nat} (hK : X.K = G.K) (hc : X.calm = true) (hT : ∀ c k, T c = some k → AOk X G c f k) (hT2 : ∀ c k, T2 c = some k → AOk X G c f2 k)
    (h1 : PE X o1 (rd G W A1)) (h2 : PE X o2 (rd G W A2)) (hv : PE X value (rd G W V))
    (hs : swapsWithSole [.Tuple [.Attribute o1 f q1, .Attribute o2 f2 q2] kt tp] value pos.line X.env = pure false) (hw : swappedStores [.Tuple [.Attribute o1 f q1, .Attribute o2 f2 q2] kt tp] value X.env = pure none) :
    PS X (.Assign [.Tuple [.Attribute o1 f q1, .Attribute o2 f2 q2] kt tp] value pos) (rdS G W (scAtt2 T f A1 T2 f2 A2 V)) :=
  (ps_asg hv (pg_tup hc (pgs_cons (pg_at hT h1) (pgs_cons (pg_at hT2 h2) pgs_nil)) rfl rfl) hs hw rfl).weakL fun E σ H ⟨ρ, s, h, F, R, r, sr, wp⟩ => stepS (L := LD G) r sr wp fun ρ1 h1 F1 d v H1 x1 r1 q wp1 => by
    have q : RD G ρ1 h1.length F1 d v := q
    obtain ⟨a, b, rfl⟩ : ∃ a b, d = .tup [a, b] := by
      cases d with
      | tup ds =>
        match ds, wp1 with
        | [a, b], _ => exact ⟨a, b, rfl⟩
        | [], wp1 => exact wp1.elim
        | [_], wp1 => exact wp1.elim
        | _ :: _ :: _ :: _, wp1 => exact wp1.elim
      | _ => exact wp1.elim
    cases q with
    | tup qt qs =>
      obtain ⟨va, vs', rfl, qa, qs'⟩ := RDs.head_ex qs
      obtain ⟨vb, vs2, rfl, qb, qs2⟩ := RDs.head_ex qs'
      cases qs2
      refine ⟨_, _, rfl, by rw [hK]; exact (r1.fr.tupAt qt).sq, rfl, _, _, rfl, ?_⟩
      refine stepS (L := LD G) r1 (sr.mono x1) wp1 fun ρ2 h2 F2 o x H2 x2 r2 q2 wp2 => ?_
      cases e3 : setA T f o a h2 with
      | none => rw [e3] at wp2; exact wp2.elim
      | some h3 =>
        rw [e3] at wp2
        refine ⟨ρ2, h2, F2, R, a, o, h3, r2, qa.mono x2, q2, e3, fun H3 hl3 r3 => ⟨_, _, rfl, ?_⟩⟩
        have sr3 : SRel G ρ2 h3.length F2 s σ := by rw [hl3]; exact (sr.mono x1).mono x2
        have wp3 := wp2
        rw [← hl3] at wp3
        refine stepS (L := LD G) r3 sr3 wp3 fun ρ4 h4 F4 o2 y H4 x4 r4 q4 wp4 => ?_
        cases e5 : setA T2 f2 o2 b h4 with
        | none => rw [e5] at wp4; exact wp4.elim
        | some h5 =>
          rw [e5] at wp4
          have qb4 : RD G ρ4 h4.length F4 b vb := by
            have := qb.mono x2
            rw [← hl3] at this
            exact this.mono x4
          refine ⟨ρ4, h4, F4, R, b, o2, h5, r4, qb4, q4, e5, fun H5 hl5 r5 => ⟨rfl, ?_⟩⟩
          exact wp4 ρ4 F4 σ H5 (by rw [hl5]; exact Ext.refl _ _ _) r5 (by rw [hl5]; exact sr3.mono x4)
end
end Lo
namespace Lo
open PySem PySem.Spec PyProof.Rows L2
structure ClI where
  c : Nat
  init : Nat
  ar : Nat
  live : Bool
structure MeI where
  sl : Bool
  c : Nat
  f : Nat
  ar : Nat
inductive AkS where
  | slot (i : Nat)
  | fld
  | prop (f : Nat)
structure XcI where
  c : Nat
  ini : Option (List Str)
structure TdI where
  a : Str
  N : List Str
  sc : Scope
  body : List Stmt
structure ST where
  gc : List (Str × D)
  fns : List (Str × (Nat × Nat))
  cls : List (Str × ClI)
  mets : List (Str × MeI)
  ats : List (Str × List (Nat × AkS))
  own : Nat × Option Nat × Option Nat
  glob : List Str
  wd : List (Str × List (Str × D))
  exs : List (Str × XcI)
  sub : List (Nat × List Nat)
  xfs : List Str
  told : List (Str × TdI)
structure CE where
  N : List Str
  sc : Scope
  fb : Str → Bool
  st : ST
  lvn : List Str
  top : Bool
  lam : Bool
def xokT (st : ST) (c : Nat) : Bool := (st.sub.lookup c).isSome
def subT (st : ST) (c c' : Nat) : Option Bool := match st.sub.lookup c with
  | some l => if xokT st c' = true then some (l.contains c') else none
  | none => none
def locB (sc : Scope) (x : Str) : Bool := match sc.names.lookup x with
  | some .local => true
  | _ => false
def cSl (N : List Str) (sc : Scope) : Option Str → Option (Option Nat)
  | none => some none
  | some y => if locB sc y = true then (ixB N y).map some else none
def cHd (st : ST) (N : List Str) (sc : Scope) : List ExceptHandler → Option (List Hdl)
  | [] => some []
  | .ExceptHandler (some (.Name x _)) n (b₀ :: su) _ :: r => match st.exs.lookup x, cSl N sc n, cHd st N sc r with
    | some xi, some i, some ks => if nameOk x = true ∧ glB sc x = true then some (⟨xi.c, i, sSs ⟨N, sc, st.xfs⟩ 30 (b₀ :: su)⟩ :: ks) else none
    | _, _, _ => none
  | _ :: _ => none
def tdQ (a : Str) : List Stmt → Option (LKd × ExceptHandler × List ExceptHandler)
  | [.Try [.Expr (.Call (.Name b _) [] [] _) _] (h₀ :: hs) [] [] _, .Return (some (.Constant .none _ _)) _] => if b = a then some (.drop, h₀, hs) else none
  | [.Try [.Return (some (.Call (.Name b _) [] [] _)) _] (h₀ :: hs) [] [] _] => if b = a then some (.ret, h₀, hs) else none
  | _ => none
def tdP (a : Str) (b : List Stmt) : Option (LKd × ExceptHandler × List ExceptHandler) := match b with
  | .Expr (.Constant (.str _) _ _) _ :: r => tdQ a r
  | r => tdQ a r
def noPar (p : Arguments) : Bool := p.posonlyargs.isEmpty && p.args.isEmpty && p.vararg.isNone && p.kwonlyargs.isEmpty && p.kw_defaults.isEmpty && p.kwarg.isNone && p.defaults.isEmpty
def ldOf : List Expr → Option (Arguments × Expr × Scope)
  | [.Lambda p b s _] => some (p, b, s)
  | _ => none
def lamE (E : CE) (scope : Scope) : CE := { E with sc := scope, fb := fun _ => false, top := false, lam := false }
abbrev Orc := Nat → FnD
def akOf (o : Orc) : AkS → AK
  | .slot i => .slot i
  | .fld => .fld
  | .prop f => .prop (o f)
def atab (st : ST) (o : Orc) (f : Str) : ATab := fun c => match st.ats.lookup f with
  | some l => (l.lookup c).map (akOf o)
  | none => none
def ownV (st : ST) (o : Orc) : OwnV := ⟨st.own.1, st.own.2.1.map o, st.own.2.2.map o⟩
def bfun (ow : OwnV) (lv : Bool) : List (Str × Bool × String × PN) :=
  [("len", false, "len", lenO ow), ("int", true, "int", intP1), ("str", true, "str", strP1), ("tuple", true, "tuple", tupleP), ("list", true, "list", listP lv), ("dict", true, "dict", dictP lv), ("sorted", false, "sorted", sortedP lv),
   ("all", false, "all", allP), ("any", false, "any", anyP), ("sum", false, "sum", sumP), ("max", false, "max", maxQ), ("min", false, "min", minQ), ("abs", false, "abs", absP), ("isinstance", false, "isinstance", isiO ow)]
def tyNames : List (Str × String) := [("int", "int"), ("bool", "bool"), ("str", "str"), ("tuple", "tuple"), ("list", "list"), ("dict", "dict")]
def bltUsed : List Str := ["len", "int", "str", "tuple", "list", "dict", "sorted", "all", "any", "sum", "max", "min", "abs", "isinstance", "bool", "range", "enumerate", "zip", "set"]
def opP (lv : Bool) : Operator → Option P2
  | .Add => some (addP lv)
  | .Sub => some subP
  | .Mult => some (mulP lv)
  | .FloorDiv => some fdivP
  | .Mod => some modP
  | .Pow => some powP
  | _ => none
def selfA : Expr → Bool
  | .Attribute (.Name x _) _ _ => x == ("self" : Str)
  | _ => false
def cmpP (ow : OwnV) (sf : Bool) : CmpOp → Option P2
  | .Eq => some (eqO ow)
  | .NotEq => some (neO ow)
  | .Lt => some ltP
  | .LtE => some leP
  | .Gt => some gtP
  | .GtE => some geP
  | .Is => some isP
  | .IsNot => some isNotP
  | .In => if sf = true then some (inO ow false) else some inP
  | .NotIn => if sf = true then some (inO ow true) else some notInP
def tbIndexO (ow : OwnV) : MTab := fun T => if T = "list" then some ("list.index", indexO ow) else tbIndex T
def mtab (ow : OwnV) (sf lv : Bool) (m : Str) : Option MTab :=
  if m = "index" ∧ sf = true then some (tbIndexO ow) else
  if m = "append" then some tbAppend else if m = "extend" then some tbExtend else if m = "pop" then some tbPop else if m = "index" then some tbIndex else if m = "count" then some tbCount else if m = "join" then some tbJoin
  else if m = "split" then some (tbSplit lv) else if m = "get" then some tbGet else none
def cTg (E : CE) : Nat → Expr → Option Tgt
  | 0, _ => none
  | n + 1, .Name x _ => if stB E.sc E.fb x = true then (ixB E.N x).map .nm else none
  | n + 1, .Tuple es _ _ => if es.all noStar = true then (es.mapM (cTg E n)).map .tp else none
  | _ + 1, _ => none
def blk (E : CE) (scope : Scope) : CE := { E with sc := relS scope E.sc, fb := fun x => scope.names.lookup x == some .cell, top := false, lam := false }
def ownN (N : List Str) (scope : Scope) : List (Str × Nat) := scope.names.filterMap fun (x, k) => match k with
  | .local => (ixB N x).map fun i => (x, i)
  | .cell => (ixB N x).map fun i => (x, i)
  | _ => none
def slOk (t : Tgt) (vs : List Nat) : Bool := t.sl.all fun i => vs.contains i
mutual
def cE (o : Orc) : Nat → CE → Bool → Expr → Ac
  | 0, _, _, _ => acNo
  | n + 1, E, lv, e => match e with
    | .Constant c _ _ => match c with
      | .none => acC .non
      | .bool b => acC (.bl b)
      | .int i => acC (.int i)
      | .str x => acC (.str x)
      | _ => acNo
    | .Name x _ => if nameOk x = true then
        if visB E.sc x = true then match ixB E.N x with
          | some i => acV i
          | none => acNo
        else if glB E.sc x = true then match E.st.gc.lookup x with
          | some d => acC d
          | none => if E.st.glob.contains x = true then acNo else match tyNames.lookup x with
            | some T => acC (.ty T)
            | none => acNo
        else acNo
      else acNo
    | .BinOp a op b _ => match opP lv op with
      | some f => ac2 f (cE o n E false a) (cE o n E false b)
      | none => acNo
    | .UnaryOp op a _ => match op with
      | .USub => ac1 negP (cE o n E false a)
      | .Not => acNot (cE o n E false a)
      | _ => acNo
    | .BoolOp op es pos => match es with
      | [] => acNo
      | [a] => cE o n E false a
      | a :: b :: r => match op with
        | .And => acAnd (cE o n E false a) (cE o n E false (.BoolOp .And (b :: r) pos))
        | .Or => acOr (cE o n E false a) (cE o n E false (.BoolOp .Or (b :: r) pos))
    | .Compare a ops cs _ => match ops, cs with
      | [op], [b] => match cmpP (ownV E.st o) (selfA b) op with
        | some f => if behindInMarks op b = true then acNo else ac2 f (cE o n E false a) (cE o n E false b)
        | none => acNo
      | [op, op'], [b, c] => match cmpP (ownV E.st o) false op, cmpP (ownV E.st o) false op' with
        | some f, some g => if behindInMarks op' c = true then acNo else acCh f g (cE o n E false a) (cE o n E false b) (cE o n E false c)
        | _, _ => acNo
      | _, _ => acNo
    | .IfExp c a b _ => acIf (cT o n E c) (cE o n E lv a) (cE o n E lv b)
    | .Tuple es _ _ => acN tupP (cL o n E es)
    | .List es _ => acN (lstP lv) (cL o n E es)
    | .Dict ks vs _ => match ks, vs with
      | [], [] => fun _ h => Res.of (some (mkD lv [] h))
      | ks, vs => if ks ≠ [] ∧ ks.all (·.isSome) = true ∧ ks.length = vs.length ∧ ks.length ≤ 15 then acDsp lv ((ks.zip vs).map fun p => ((match p.1 with | some k => cE o n E false k | none => acNo), cE o n E false p.2)) else acNo
    | .FormattedValue e c sp _ => match sp with
      | none => if c = -1 then acFm (cE o n E false e) else acNo
      | some _ => acNo
    | .JoinedStr vs _ => match vs with
      | [] => acNo
      | [e] => cE o n E false e
      | v1 :: v2 :: rest => acJs ((v1 :: v2 :: rest).map fun e => cE o n E false e) Str.empty
    | .ListComp elt gs scope _ => match gs with
      | [⟨tg, it, ifs, a⟩] => if a = 0 ∧ notSet it = true then cLc o n E lv elt tg it ifs scope else acNo
      | _ => acNo
    | .DictComp k v gs scope _ => match gs with
      | [⟨tg, it, ifs, a⟩] => if a = 0 ∧ notSet it = true then
          let own := ownN E.N scope
          if blkC E.N E.sc scope own = true then match cTg (blk E scope) n tg with
            | some t => if slOk t (own.map (·.2)) = true then acDc lv (cI o n E tg it) t (cIf o n (blk E scope) ifs) (cE o n (blk E scope) false k) (cE o n (blk E scope) false v) (own.map (·.2)) else acNo
            | none => acNo
          else acNo
        else acNo
      | _ => acNo
    | .Call f args kws pos => match kws with
      | [] => match f with
        | .Name x _ => if nameOk x = true ∧ glB E.sc x = true then match ldOf args with
          | some (lp, lb, ls) => match E.st.told.lookup x with
            | some td => if E.lam = true ∧ noPar lp = true ∧ LamX.lamSB E.sc ls = true ∧ nameOk td.a = true then match tdP td.a td.body with
                | some (kd, h₀, hs) => match cHd E.st td.N td.sc (h₀ :: hs) with
                  | some ks => acTold (subT E.st) td.N.length kd ks (cE o n (lamE E ls) false lb)
                  | none => acNo
                | none => acNo
              else acNo
            | none => acNo
          | none => match dzOf x args with
          | some (a, b) => if glB E.sc "zip" = true ∧ E.st.glob.contains "zip" = false ∧ E.st.glob.contains "dict" = false then acDZ lv (cE o n E false a) (cE o n E false b) else acNo
          | none => match lrOf x args with
          | some (a, ob) => if glB E.sc "range" = true ∧ E.st.glob.contains "range" = false ∧ E.st.glob.contains "list" = false then match ob with
              | none => acLR1 lv (cE o n E false a)
              | some b => acLR2 lv (cE o n E false a) (cE o n E false b)
            else acNo
          | none => match lsOf x args with
          | some a => if glB E.sc "set" = true ∧ E.st.glob.contains "set" = false ∧ E.st.glob.contains "len" = false then acLS (cE o n E false a) else acNo
          | none => match E.st.fns.lookup x with
            | some (i, ar) => match args with
              | [] => acCall (o i) ar alNil
              | a :: es => if noStar a = true ∧ es.all noStar = true then acCall (o i) ar (cL o n E (a :: es)) else acNo
            | none => match E.st.cls.lookup x with
              | some ci => match args with
                | [] => acNo
                | a :: es => if noStar a = true ∧ es.all noStar = true then
                    if ci.live = true then acRaw (initF true ci.c (o ci.init)) ci.ar (cL o n E (a :: es)) else acCall (initF false ci.c (o ci.init)) ci.ar (cL o n E (a :: es))
                  else acNo
              | none => if E.st.glob.contains x = true then acNo else match (bfun (ownV E.st o) lv).lookup x with
                | some (_, _, p) => match args with
                  | [] => acNo
                  | a :: es => if noStar a = true ∧ es.all noStar = true then acN p (cL o n E (a :: es)) else acNo
                | none => acNo
          else acNo
        | .Attribute r m apos => if noSup r = true ∧ fewB args = true ∧ (apos.endLine == pos.line) = true then match mtab (ownV E.st o) (selfA r) lv m with
            | some tb => match args with
              | [] => acM tb (cE o n E false r) alNil
              | a :: es => acM tb (cE o n E false r) (cL o n E (a :: es))
            | none => match E.st.mets.lookup m with
              | some mi => match args with
                | [] => if mi.ar = 0 then acMet mi.sl mi.c m (o mi.f) 0 (cE o n E false r) alNil else acNo
                | a :: es => acMet mi.sl mi.c m (o mi.f) mi.ar (cE o n E false r) (cL o n E (a :: es))
              | none => acNo
          else acNo
        | _ => acNo
      | _ => acNo
    | .Attribute a f _ => if noSup a = true then acAttr (atab E.st o f) f (cE o n E false a) else acNo
    | .Subscript a b _ => match b with
      | .Slice lo hi st _ => match st with
        | none => acSl lv (cE o n E false a) (match lo with | some x => aoSome (cE o n E false x) | none => aoNone) (match hi with | some x => aoSome (cE o n E false x) | none => aoNone)
        | some st => if revOf lo hi (some st) = true then acRev lv (cE o n E false a) else acNo
      | b => match wdOf E.st.wd a with
        | some (x, l) => if nameOk x = true ∧ glB E.sc x = true then acWd l (cE o n E false b) else ac2 itemP (cE o n E false a) (cE o n E false b)
        | none => ac2 itemP (cE o n E false a) (cE o n E false b)
    | _ => acNo
def cT (o : Orc) : Nat → CE → Expr → AcB
  | 0, _, _ => fun _ _ => .no
  | n + 1, E, e => match e with
    | .UnaryOp op a p => match op with
      | .Not => tbNot (cT o n E a)
      | op => tbV (cE o n E false (.UnaryOp op a p))
    | .BoolOp op es pos => match es with
      | [] => fun _ _ => .no
      | [a] => cT o n E a
      | a :: b :: r => match op with
        | .And => tbAnd (cT o n E a) (cT o n E (.BoolOp .And (b :: r) pos))
        | .Or => tbOr (cT o n E a) (cT o n E (.BoolOp .Or (b :: r) pos))
    | .Compare a ops cs p => tbV (cE o n E false (.Compare a ops cs p))
    | .IfExp .. => fun _ _ => .no
    | e => tbV (cE o n E false e)
def cL (o : Orc) : Nat → CE → List Expr → AcL
  | 0, _, _ => fun _ _ => .no
  | n + 1, E, es => match es with
    | [] => alNil
    | .Starred a _ :: r => alStar (cE o n E false a) (cL o n E r)
    | a :: r => alCons (cE o n E false a) (cL o n E r)
def cIf (o : Orc) : Nat → CE → List Expr → AcB
  | 0, _, _ => fun _ _ => .no
  | n + 1, E, es => match es with
    | [] => tbYes
    | [c] => cT o n E c
    | _ => fun _ _ => .no
def cLc (o : Orc) : Nat → CE → Bool → Expr → Expr → Expr → List Expr → Scope → Ac
  | 0, _, _, _, _, _, _, _ => acNo
  | n + 1, E, lv, elt, tg, it, ifs, scope =>
    let own := ownN E.N scope
    if blkC E.N E.sc scope own = true then match cTg (blk E scope) n tg with
      | some t => if slOk t (own.map (·.2)) = true then acLc lv (cI o n E tg it) t (cIf o n (blk E scope) ifs) (cE o n (blk E scope) false elt) (own.map (·.2)) else acNo
      | none => acNo
    else acNo
def cI (o : Orc) : Nat → CE → Expr → Expr → AcI
  | 0, _, _, _ => fun _ _ => .no
  | n + 1, E, tg, it => match it with
    | .Call f args kws cpos => match kws with
      | [] => match f with
        | .Name x np => if x = "range" ∧ glB E.sc x = true ∧ E.st.glob.contains x = false ∧ args.all noStar = true then match args with
            | [a] => acRng1 (cE o n E false a)
            | [a, b] => acRng2 (cE o n E false a) (cE o n E false b)
            | _ => fun _ _ => .no
          else if x = "enumerate" ∧ glB E.sc x = true ∧ E.st.glob.contains x = false ∧ args.all noStar = true ∧ notTup tg = false then match args with
            | [a] => acEnum (cE o n E false a)
            | _ => fun _ _ => .no
          else if x = "zip" ∧ glB E.sc x = true ∧ E.st.glob.contains x = false ∧ args.all noStar = true ∧ notTup tg = false then match args with
            | [a, b] => acZip (cE o n E false a) (cE o n E false b)
            | _ => fun _ _ => .no
          else acIt (cE o n E false (.Call (.Name x np) args [] cpos))
        | .Attribute r m apos => if m = "values" ∧ args = [] ∧ noSup r = true ∧ (apos.endLine == cpos.line) = true then acDic valsS (cE o n E false r)
          else if m = "keys" ∧ args = [] ∧ noSup r = true ∧ (apos.endLine == cpos.line) = true then acDic keysS (cE o n E false r)
          else if m = "items" ∧ args = [] ∧ noSup r = true ∧ (apos.endLine == cpos.line) = true ∧ notTup tg = false then acDic itemsS (cE o n E false r)
          else acIt (cE o n E false (.Call (.Attribute r m apos) args [] cpos))
        | _ => fun _ _ => .no
      | _ => fun _ _ => .no
    | it => acIt (cE o n E false it)
end
end Lo
namespace Lo
open PySem PySem.Spec PyProof.Rows L2
structure XcOk (X : Cx) (G : GI) (x : Str) (xi : XcI) : Prop where
  mg : X.mg x = some (.ref (G.clA xi.c))
  rs : Raises X (.ref (G.clA xi.c))
  kp : PySem.W.keepIn X.K (.ref (G.clA xi.c)) = true
  no : xi.ini = none → PySem.W.excIn X.K (G.clA xi.c) PySem.HandSPX.veTail "ValueError.__new__" = true
  ini : ∀ ns, xi.ini = some ns → OexC X.K (G.clA xi.c) ∧ ∃ fI fd ps k, PySem.W.findIn X.K (.ref (G.clA xi.c)) "__init__" = some (some (.ref fI)) ∧ PySem.W.typeIn X.K (.ref fI) = some (.type "function") ∧
    FnOk X.prog X.w X.K X.mg X.base (CX X.prog X.w) k fI fd ps (spXi X.K (G.clA xi.c) ns) ∧ Room (k + 1) X.A ∧ Binds X.K fd ps []
def TdOk (X : Cx) (x : Str) (td : TdI) : Prop := ∃ (g : Addr) (pg : Arguments) (dV kV doc pm cdv ct oc : Value) (an od : Option Addr) (osl : Array (Option Value)), X.mg x = some (.ref g) ∧ PySem.W.keepIn X.K (.ref g) = true ∧
  X.K.lookup g = some ⟨oc, od, .func (PySem.W.fnOf x x pg td.body td.sc dV kV doc pm an cdv ct), osl⟩ ∧ PySem.W.codeIn X.K cdv x = true ∧ L2.Binds X.K (PySem.W.fnOf x x pg td.body td.sc dV kV doc pm an cdv ct) [td.a] [] ∧ FnScope td.N [td.a] td.sc
structure StOk (X : Cx) (G : GI) (st : ST) (o : Orc) : Prop where
  gc : ∀ x d, st.gc.lookup x = some d → ∃ v u, X.mg x = some u ∧ RelV v u ∧ ∀ ρ m F, RD G ρ m F d v
  fns : ∀ x i n, st.fns.lookup x = some (i, n) → ∃ fa k, FnR X.prog X.w X.K X.mg X.base (CX X.prog X.w) k fa (spOf G (o i) n) ∧ Room k X.A ∧ X.mg x = some (.ref fa) ∧ PySem.W.keepIn X.K (.ref fa) = true
  cls : ∀ x ci, st.cls.lookup x = some ci → ∃ fa k, Mk X.K (G.clA ci.c) fa ∧ FnR X.prog X.w X.K X.mg X.base (CX X.prog X.w) k fa (spOf G (o ci.init) (ci.ar + 1)) ∧ Room (k + 1) X.A ∧ X.mg x = some (.ref (G.clA ci.c))
  mets : ∀ m mi, st.mets.lookup m = some mi → ∃ fa k, MetK X.K (G.clA mi.c) mi.sl ∧ Meth X.K (G.clA mi.c) m fa ∧ FnR X.prog X.w X.K X.mg X.base (CX X.prog X.w) k fa (spOf G (o mi.f) (mi.ar + 1)) ∧ Room k X.A
  ats : ∀ f c k, atab st o f c = some k → AOk X G c f k
  own : OwnOk X G (ownV st o)
  blt : ∀ x, bltUsed.contains x = true → st.glob.contains x = false → X.mg x = none
  wd : ∀ x l, st.wd.lookup x = some l → WdOk X G x l
  exs : ∀ x xi, st.exs.lookup x = some xi → XcOk X G x xi
  sub : ∀ c c' b, subT st c c' = some b → PySem.W.exmOne X.K (.ref (G.clA c)) (.ref (G.clA c')) = some b ∧ xokT st c = true
  xf : ∀ c, xokT st c = true → XfC X.K (G.clA c) ∧ ∀ f ∈ st.xfs, PySem.W.findIn X.K (.ref (G.clA c)) f = some none
  told : ∀ x td, st.told.lookup x = some td → TdOk X x td
structure COk (E : CE) (X : Cx) (G : GI) (o : Orc) (W : WX) : Prop where
  K : X.K = G.K
  calm : X.calm = true
  N : X.N = E.N
  nd : E.N.Nodup
  sc : X.env.scope = E.sc
  fb : X.fn = E.fb
  st : StOk X G E.st o
  tk : Takes X W
  un : X.A.units + 65 < cLine
  xn : G.xn = none
  fr : E.top = true → X.stack = X.env :: X.outer ∧ X.env.frame = some X.env.locals
  lam : E.lam = true → ∃ (kb : Nat) (c P : Addr), Room (kb + 2) X.A ∧ (∀ (A : Around) (outer : List Env) (s : Shared) (H : Hp) (Ex : XK) (scope : Scope) (f c' : Addr), Room kb (A.deeper (LamX.lamEnv X scope s.heap.objs.size f c')) → StOk (LamX.lamCx X A outer s H Ex scope f c') G E.st o) ∧
    LamX.TabB X.base X.mg c P ∧ X.env.code = .ref c ∧ (P, X.env.qual ++ "<lambda>") ∈ G.tabs ∧ ∀ p ∈ G.tabs, p.1 = P → p.2 = X.env.qual ++ "<lambda>"
section
variable {X : Cx} {G : GI} {o : Orc} {W : WX} {E : CE}
theorem takes0 : Takes X W0 → Takes X W0 := id
theorem StOk.blk {st : ST} (h : StOk X G st o) (s : Shared) (H : Hp) (scope : Scope) (cenv : Env) (fp : List Addr) : StOk (X.blk s H scope cenv fp) G st o :=
  ⟨h.gc, h.fns, h.cls, h.mets, fun f c k e => match k, h.ats f c k e with
    | _, .slot a b => .slot a b
    | _, .fld a b => .fld a b
    | _, .prop a b c d e f g => .prop a b c d e f g, ⟨h.own.sc, h.own.si, h.own.len, h.own.eq⟩, h.blt, h.wd, fun x xi e => let z := h.exs x xi e; ⟨z.mg, z.rs, z.kp, z.no, z.ini⟩, h.sub, h.xf, h.told⟩
theorem COk.blk (h : COk E X G o W) (s : Shared) (H : Hp) (scope : Scope) (C : Addr) (cl : List (Str × Addr)) (fp : List Addr) : COk (blk E scope) (X.blk s H scope (compEnvC scope cl C X.env) fp) G o W0 := by
  refine ⟨h.K, h.calm, h.N, h.nd, ?_, rfl, h.st.blk s H scope _ fp, ?_, h.un, h.xn, (fun z => by cases z), (fun z => by cases z)⟩
  · show relabel scope X.env = relS scope E.sc
    unfold relabel relS
    rw [← h.sc]
    rfl
  · rintro u s' ⟨_, _, _, _, _, _, _, _, _, _, _, _, _, _, _, _, w⟩
    exact w
theorem opP_ok (hc : COk E X G o W) {lv : Bool} {op : Operator} {f : P2} (e : opP lv op = some f) : OpR X (binaryOp op) (rop G f) := by
  cases op <;> simp only [opP] at e <;> cases e
  · exact or_add hc.K lv
  · exact or_sub
  · exact or_mul hc.K lv
  · exact or_mod
  · exact or_pow
  · exact or_fdiv
theorem cmpP_ok (hc : COk E X G o W) {op : CmpOp} {sf : Bool} {f : P2} (e : cmpP (ownV E.st o) sf op = some f) : OpR X (compareOp op) (rop G f) := by
  cases op <;> simp only [cmpP] at e <;> try cases e
  · exact or_eqO hc.K hc.un hc.st.own
  · exact or_neO hc.K hc.un hc.st.own
  · exact or_lt
  · exact or_le
  · exact or_gt
  · exact or_ge
  · exact or_is
  · exact or_isNot
  · split at e <;> cases e
    · exact or_inO hc.K hc.un hc.st.own
    · exact or_in hc.K hc.un
  · split at e <;> cases e
    · exact or_notInO hc.K hc.un hc.st.own
    · exact or_notIn hc.K hc.un
theorem inO_bl {ow : OwnV} {ng : Bool} {d e : D} {h h' : List O} {z : D} (q : inO ow ng d e h = some (z, h')) : ∃ k, z = .bl k := by
  unfold inO at q
  split at q
  · split at q
    · obtain ⟨r, _, e2⟩ := Option.map_eq_some_iff.mp q
      cases e2
      exact ⟨_, rfl⟩
    · cases q
  · split at q
    · exact bD_bl q
    · exact bD_bl q
theorem ok_indexO (hK : X.K = G.K) (hu : X.A.units + 65 < cLine) {ow : OwnV} (ok : OwnOk X G ow) : ∀ T id f, tbIndexO ow T = some (id, f) → MOk X G "index" T id f := by
  intro T id f e
  unfold tbIndexO at e
  split at e
  · rename_i h
    subst h
    cases e
    exact ⟨PySem.F.plainAttrs_list, PySem.F.slot_list_index, PySem.F.type_list_index, mt_indexO hK hu ok⟩
  · exact ok_index hK hu T id f e
theorem cmpP_bl {ow : OwnV} {op : CmpOp} {sf : Bool} {f : P2} (e : cmpP ow sf op = some f) : ∀ d e h z h', f d e h = some (z, h') → ∃ k, z = .bl k := by
  intro d e0 h z h' q
  cases op <;> simp only [cmpP] at e <;> try cases e
  · unfold eqO at q
    split at q
    · split at q
      · split at q
        · cases q; exact ⟨_, rfl⟩
        · cases q
      · cases q
    · unfold eqX at q
      split at q
      · exact bD_bl q
      · exact bD_bl q
  · unfold neO at q
    split at q
    · split at q
      · split at q
        · cases q; exact ⟨_, rfl⟩
        · cases q
      · cases q
    · unfold neX at q
      split at q
      · exact bD_bl q
      · exact bD_bl q
  · unfold ltP at q; split at q <;> cases q <;> exact ⟨_, rfl⟩
  · unfold leP at q; split at q <;> cases q <;> exact ⟨_, rfl⟩
  · unfold gtP at q; split at q <;> cases q <;> exact ⟨_, rfl⟩
  · unfold geP at q; split at q <;> cases q <;> exact ⟨_, rfl⟩
  · unfold isP at q; split at q <;> cases q <;> exact ⟨_, rfl⟩
  · unfold isNotP at q; split at q <;> cases q <;> exact ⟨_, rfl⟩
  · split at e <;> cases e
    · exact inO_bl q
    · exact bD_bl q
  · split at e <;> cases e
    · exact inO_bl q
    · exact bD_bl q
theorem mtab_ok (hc : COk E X G o W) {sf lv : Bool} {m : Str} {tb : MTab} (e : mtab (ownV E.st o) sf lv m = some tb) : ∀ T id f, tb T = some (id, f) → MOk X G m T id f := by
  unfold mtab at e
  split at e
  · rename_i h
    obtain ⟨rfl, _⟩ := h
    cases e
    exact ok_indexO hc.K hc.un hc.st.own
  repeat' split at e
  all_goals first | cases e | skip
  all_goals (rename_i h; subst h)
  · exact ok_append
  · exact ok_extend
  · exact ok_pop
  · exact ok_index hc.K hc.un
  · exact ok_count hc.K hc.un
  · exact ok_join hc.K
  · exact ok_split lv
  · exact ok_get hc.un
theorem cTgs_ok {n : Nat} (hc : COk E X G o W) (ih : ∀ e t, cTg E n e = some t → PG X e (rdT G t)) : ∀ {es : List Expr} {ts : List Tgt}, es.all noStar = true → es.mapM (cTg E n) = some ts → PGs X es (rdTs G ts) ∧ (assignEach es X.env).length = ts.length ∧ (assignEach es X.env).findIdx? (·.1) = none
  | [], ts, hs, e => by
    simp at e
    subst e
    exact ⟨pgs_nilD, rfl, rfl⟩
  | a :: r, ts, hs, e => by
    simp only [List.all_cons, Bool.and_eq_true] at hs
    rw [List.mapM_cons] at e
    cases e1 : cTg E n a with
    | none => simp [e1] at e
    | some t =>
      cases e2 : r.mapM (cTg E n) with
      | none => simp [e1, e2] at e
      | some ts' =>
        simp [e1, e2] at e
        subst e
        obtain ⟨h1, h2, h3⟩ := cTgs_ok hc ih hs.2 e2
        refine ⟨pgs_consD (ih a t e1) h1 (by rw [each_cons hs.1]; rfl), by rw [each_cons hs.1]; simp [h2], ?_⟩
        rw [each_cons hs.1, List.findIdx?_cons]
        simp [h3]
theorem cTg_ok : ∀ (n : Nat) (E : CE) (X : Cx), COk E X G o W → ∀ e t, cTg E n e = some t → PG X e (rdT G t)
  | 0, E, X, hc, e, t, q => by simp [cTg] at q
  | n + 1, E, X, hc, e, t, q => by
    cases e <;> simp only [cTg] at q <;> try cases q
    · split at q
      · rename_i x p h
        obtain ⟨i, e1, e2⟩ := Option.map_eq_some_iff.mp q
        subst e2
        obtain ⟨h1, h2⟩ := st_of h
        exact pg_nmD (by rw [hc.N]; exact hc.nd) (by rw [hc.N]; exact ix_of e1) (by rw [hc.sc]; exact h1) (by rw [hc.fb, hc.sc]; exact h2)
      · cases q
    · split at q
      · rename_i es k p h
        obtain ⟨ts, e1, e2⟩ := Option.map_eq_some_iff.mp q
        subst e2
        obtain ⟨h1, h2, h3⟩ := cTgs_ok hc (cTg_ok n E X hc) h e1
        exact pg_tupD hc.K hc.calm h1 h2 h3
      · cases q
theorem cTgX_ok (n : Nat) (hc : COk E X G o W) {e : Expr} {t : Tgt} (q : cTg E n e = some t) : PG X e (rdX G t) := by
  cases n with
  | zero => simp [cTg] at q
  | succ n =>
    have q0 := q
    cases e <;> simp only [cTg] at q <;> try cases q
    · split at q
      · obtain ⟨i, e1, e2⟩ := Option.map_eq_some_iff.mp q
        subst e2
        exact cTg_ok (n + 1) E X hc _ _ q0
      · cases q
    · split at q
      · rename_i es k p h
        obtain ⟨ts, e1, e2⟩ := Option.map_eq_some_iff.mp q
        subst e2
        obtain ⟨h1, h2, h3⟩ := cTgs_ok hc (cTg_ok n E X hc) h e1
        show PG X _ (gTup G.K ts.length (rdTs G ts))
        rw [← hc.K]
        exact pg_tupT hc.calm h1 h2 h3
      · cases q
theorem slOk_of {t : Tgt} {vs : List Nat} (h : slOk t vs = true) : ∀ i ∈ t.sl, i ∈ vs := fun i hi => by
  have := List.all_eq_true.mp h i hi
  simpa using this
structure Snd (G : GI) (o : Orc) (n : Nat) : Prop where
  e : ∀ E X W, COk E X G o W → ∀ lv x, PE X x (rd G W (cE o n E lv x))
  t : ∀ E X W, COk E X G o W → ∀ x, PT X x (rdB G W (cT o n E x))
  w : ∀ E X W, COk E X G o W → ∀ op es pos, PW X (.BoolOp op es pos) (rdB G W (cT o n E (.BoolOp op es pos)))
  l : ∀ E X W, COk E X G o W → ∀ es, PA X es (rdA G W (cL o n E es))
  f : ∀ E X W, COk E X G o W → ∀ es, PTs X es (rdB G W (cIf o n E es))
  c : ∀ E X W, COk E X G o W → ∀ lv elt tg it ifs scope pos, notSet it = true → PE X (.ListComp elt [⟨tg, it, ifs, 0⟩] scope pos) (rd G W (cLc o n E lv elt tg it ifs scope))
  i : ∀ E X W, COk E X G o W → ∀ tg it, PI X tg it (rdI G W (cI o n E tg it))
  p : ∀ E X W, COk E X G o W → ∀ a ops cs pos, PT X (.Compare a ops cs pos) (rdB G W (tbV (cE o n E false (.Compare a ops cs pos))))
theorem pt_noD {e : Expr} : PT X e (rdB G W (fun _ _ => .no)) := ⟨fun _ _ _ _ _ _ ⟨_, _, _, _, _, _, _, h⟩ => h.elim⟩
theorem pw_noD {e : Expr} : PW X e (rdB G W (fun _ _ => .no)) := ⟨fun _ _ _ _ _ _ _ ⟨_, _, _, _, _, _, _, h⟩ => h.elim⟩
theorem pa_noD {e : List Expr} : PA X e (rdA G W (fun _ _ => .no)) := ⟨fun _ _ _ _ _ _ _ ⟨_, _, _, _, _, _, _, h⟩ => h.elim⟩
theorem pts_noD {e : List Expr} : PTs X e (rdB G W (fun _ _ => .no)) := ⟨fun _ _ _ _ _ _ ⟨_, _, _, _, _, _, _, h⟩ => h.elim⟩
theorem pi_noD {e tg : Expr} : PI X tg e (rdI G W (fun _ _ => .no)) := ⟨fun _ _ _ _ _ _ ⟨_, _, _, _, _, _, _, h⟩ => h.elim⟩
theorem pe_dnewD (lv : Bool) {pos : Pos} : PE X (.Dict [] [] pos) (rd G W (fun _ h => Res.of (some (mkD lv [] h)))) :=
  pe_dnewK.weakL fun σ H Q ⟨ρ, s, h, F, R, r, sr, wp⟩ => fun p hp => wp_mkD r wp hp .nil
theorem snd_c {n : Nat} (ih : Snd G o n) (hc : COk E X G o W) (lv : Bool) (elt tg it : Expr) (ifs : List Expr) (scope : Scope) (pos : Pos) (hs : notSet it = true) : PE X (.ListComp elt [⟨tg, it, ifs, 0⟩] scope pos) (rd G W (cLc o (n + 1) E lv elt tg it ifs scope)) := by
  simp only [cLc]
  split
  · rename_i hb
    split
    · rename_i t ht
      split
      · rename_i hsl
        refine pe_lcD lv hc.calm (by rw [hc.N]; exact hc.nd) (ih.i E X W hc tg it) (blkOk_by (by rw [hc.N, hc.sc]; exact hb)) (slOk_of hsl) (fun s H C cl fp => ?_) (fun s H C cl fp => ?_) (fun s H C cl fp => ?_) (fold_of hs)
        · exact cTgX_ok n (hc.blk s H scope C cl fp) ht
        · exact ih.f _ _ _ (hc.blk s H scope C cl fp) ifs
        · exact ih.e _ _ _ (hc.blk s H scope C cl fp) false elt
      · exact pe_no
    · exact pe_no
  · exact pe_no
end
end Lo
namespace Lo
open PySem PySem.Spec PyProof.Rows L2
section
variable {X : Cx} {G : GI} {o : Orc} {W : WX} {E : CE}
theorem gl_ok (hc : COk E X G o W) {x : Str} (h : glB E.sc x = true) : Gl X x := by
  show X.env.scope.names.lookup x = _
  rw [hc.sc]
  exact gl_of h
theorem bfun_ok (hc : COk E X G o W) {lv : Bool} {x : Str} {ty : Bool} {id : String} {p : PN} (e : (bfun (ownV E.st o) lv).lookup x = some (ty, id, p)) :
    bltUsed.contains x = true ∧ ((ty = false ∧ bootBuiltins x = some (.builtin id) ∧ CallR X (.builtin id) (runN G p)) ∨ (ty = true ∧ bootBuiltins x = some (.type id) ∧ CallR X (.type id) (runN G p))) := by
  unfold bfun at e
  simp only [List.lookup_cons, List.lookup_nil] at e
  repeat' split at e
  all_goals first | (cases e; done) | skip
  all_goals (rename_i h; have h := beq_iff_eq.mp h; subst h; cases e)
  · exact ⟨by decide +kernel, .inl ⟨rfl, by decide +kernel, cr_lenO hc.K hc.st.own⟩⟩
  · exact ⟨by decide +kernel, .inr ⟨rfl, by decide +kernel, cr_int⟩⟩
  · exact ⟨by decide +kernel, .inr ⟨rfl, by decide +kernel, cr_str⟩⟩
  · exact ⟨by decide +kernel, .inr ⟨rfl, by decide +kernel, cr_tuple hc.K⟩⟩
  · exact ⟨by decide +kernel, .inr ⟨rfl, by decide +kernel, cr_list hc.K hc.calm lv⟩⟩
  · exact ⟨by decide +kernel, .inr ⟨rfl, by decide +kernel, cr_dict lv⟩⟩
  · exact ⟨by decide +kernel, .inl ⟨rfl, by decide +kernel, cr_sortedAny hc.K hc.calm lv⟩⟩
  · exact ⟨by decide +kernel, .inl ⟨rfl, by decide +kernel, cr_allD hc.K hc.calm⟩⟩
  · exact ⟨by decide +kernel, .inl ⟨rfl, by decide +kernel, cr_anyD hc.K hc.calm⟩⟩
  · exact ⟨by decide +kernel, .inl ⟨rfl, by decide +kernel, cr_sumD hc.K hc.calm⟩⟩
  · exact ⟨by decide +kernel, .inl ⟨rfl, by decide +kernel, cr_maxQ hc.K hc.calm hc.un⟩⟩
  · exact ⟨by decide +kernel, .inl ⟨rfl, by decide +kernel, cr_minQ hc.K hc.calm hc.un⟩⟩
  · exact ⟨by decide +kernel, .inl ⟨rfl, by decide +kernel, cr_absD⟩⟩
  · exact ⟨by decide +kernel, .inl ⟨rfl, by decide +kernel, cr_isiO hc.K hc.st.own⟩⟩
theorem ty_ok {x : Str} {T : String} (e : tyNames.lookup x = some T) : bltUsed.contains x = true ∧ bootBuiltins x = some (.type T) := by
  unfold tyNames at e
  simp only [List.lookup_cons, List.lookup_nil] at e
  repeat' split at e
  all_goals first | (cases e; done) | skip
  all_goals (rename_i h; have h := beq_iff_eq.mp h; subst h; cases e; exact ⟨by decide +kernel, by decide +kernel⟩)
variable {n : Nat}
theorem snd_name (hc : COk E X G o W) (lv : Bool) (x : Str) (p : Pos) : PE X (.Name x p) (rd G W (cE o (n + 1) E lv (.Name x p))) := by
  simp only [cE]
  split
  case isFalse => exact pe_no
  rename_i hn
  split
  · rename_i hv
    split
    · rename_i i hi
      exact pe_v (by rw [hc.N]; exact ix_of hi) (by rw [hc.sc]; exact vis_of hv) (nameOk1 hn) (nameOk2 hn)
    · exact pe_no
  · split
    case isFalse => exact pe_no
    rename_i hg
    split
    · rename_i d hd
      obtain ⟨v, u, h1, h2, h3⟩ := hc.st.gc x d hd
      exact pe_const (pe_glob (gl_ok hc hg) h1 h2 (nameOk1 hn)) h3
    · split
      · exact pe_no
      · rename_i hgl
        split
        · rename_i T hT
          obtain ⟨h1, h2⟩ := ty_ok hT
          exact pe_const (v := .ty T) (pe_bltn (gl_ok hc hg) (hc.st.blt x h1 (by simpa using hgl)) h2 rfl (nameOk3 hn) (nameOk1 hn)) fun _ _ _ => .ty T
        · exact pe_no
theorem ld_of {args : List Expr} {p : Arguments} {b : Expr} {s : Scope} (h : ldOf args = some (p, b, s)) : ∃ q, args = [.Lambda p b s q] := by
  unfold ldOf at h
  split at h
  · cases h; exact ⟨_, rfl⟩
  · cases h
theorem loc_of {sc : Scope} {x : Str} (h : locB sc x = true) : sc.names.lookup x = some .local := by
  unfold locB at h
  split at h
  · assumption
  · cases h
theorem tdQ_ok {a : Str} {b : List Stmt} {kd : LKd} {h₀ : ExceptHandler} {hs : List ExceptHandler} (h : tdQ a b = some (kd, h₀, hs)) : LBody a (h₀ :: hs) kd b := by
  unfold tdQ at h
  split at h
  · split at h
    · rename_i e; subst e; cases h; exact .drop
    · cases h
  · split at h
    · rename_i e; subst e; cases h; exact .ret
    · cases h
  · cases h
theorem tdP_ok {a : Str} {b : List Stmt} {kd : LKd} {h₀ : ExceptHandler} {hs : List ExceptHandler} (h : tdP a b = some (kd, h₀, hs)) : LBody a (h₀ :: hs) kd b ∨ ∃ z j p p' b', b = .Expr (.Constant (.str z) j p) p' :: b' ∧ LBody a (h₀ :: hs) kd b' := by
  unfold tdP at h
  split at h
  · exact .inr ⟨_, _, _, _, _, rfl, tdQ_ok h⟩
  · exact .inl (tdQ_ok h)
theorem hds_of {Y : Cx} {st : ST} {N : List Str} {sc : Scope} (hK : Y.K = G.K) (hN : Y.N = N) (hsc : Y.env.scope = sc) (hun : Y.A.units + 65 < cLine) (hexs : ∀ x xi, st.exs.lookup x = some xi → Y.mg x = some (.ref (G.clA xi.c)))
    (hxf : ∀ c, xokT st c = true → XfC Y.K (G.clA c) ∧ ∀ f ∈ st.xfs, PySem.W.findIn Y.K (.ref (G.clA c)) f = some none) : ∀ (hds : List ExceptHandler) (ks : List Hdl), cHd st N sc hds = some ks → HdsD Y G (xokT st) hds ks
  | [], ks, h => by cases h; exact .nil
  | hd :: r, ks, h => by
    unfold cHd at h
    split at h
    · rename_i z; cases z
    · rename_i x np n b₀ su p' r' z
      cases z
      split at h
      · rename_i xi i ks' e1 e2 e3
        split at h
        · rename_i hh
          cases h
          refine .cons ⟨by rw [show Gl Y x ↔ Gl Y x from Iff.rfl]; exact (by have := gl_of hh.2; rw [← hsc] at this; exact this), nameOk1 hh.1, .inl (hexs x xi e1)⟩ ?_ (fun a oe c d pn xo hz hf => ?_) (hds_of hK hN hsc hun hexs hxf _ ks' e3)
          · cases n with
            | none => cases e2; exact True.intro
            | some y =>
              simp only [cSl] at e2
              split at e2
              · rename_i hl
                obtain ⟨j, hj, e⟩ := Option.map_eq_some_iff.mp e2
                cases e
                exact ⟨by rw [hN]; exact ix_of hj, by unfold Env.kindOf; rw [hsc]; exact loc_of hl⟩
              · cases e2
          · exact (snd_suS (E := ⟨N, sc, st.xfs⟩) (X := Y.suite a ((a, oe) :: pn)) (G := G.wx (a, d)) ⟨hK, hN, hsc, hun, Y, a, oe, pn, d, c, rfl, hz, hf, rfl, hxf c xo⟩ 30).2 (b₀ :: su)
        · cases h
      · cases h
    · cases h
theorem nopar_def {p : Arguments} {env : Env} (h : noPar p = true) : defaultsOf p env = ([], []) := by
  obtain ⟨a, b, c, d, e, f, g⟩ := p
  simp only [noPar, Bool.and_eq_true, List.isEmpty_iff, Option.isNone_iff_eq_none] at h
  obtain ⟨⟨⟨⟨⟨⟨rfl, rfl⟩, rfl⟩, rfl⟩, rfl⟩, rfl⟩, rfl⟩ := h
  first | rfl | simp [defaultsOf]
theorem nopar_bind {p : Arguments} {q : Str} {body : Expr} {scope : Scope} {cl : List (Str × Addr)} {pm cv ctv : Value} (h : noPar p = true) : bindArgs (PySem.W.kla_fn "<lambda>" q p body scope cl pm cv ctv) ⟨[], []⟩ = pure [] := by
  obtain ⟨a, b, c, d, e, f, g⟩ := p
  simp only [noPar, Bool.and_eq_true, List.isEmpty_iff, Option.isNone_iff_eq_none] at h
  obtain ⟨⟨⟨⟨⟨⟨rfl, rfl⟩, rfl⟩, rfl⟩, rfl⟩, rfl⟩, rfl⟩ := h
  first | rfl | simp [bindArgs]
theorem snd_lam (ih : Snd G o n) (hc : COk E X G o W) {x : Str} {p pos lpos : Pos} {lp : Arguments} {lb : Expr} {ls : Scope} {td : TdI} {kd : LKd} {h₀ : ExceptHandler} {hs : List ExceptHandler} {ks : List Hdl} (hn : nameOk x = true) (hg : glB E.sc x = true) (htd : E.st.told.lookup x = some td)
    (hl : E.lam = true) (hp : noPar lp = true) (hls : LamX.lamSB E.sc ls = true) (ha : nameOk td.a = true) (htp : tdP td.a td.body = some (kd, h₀, hs)) (hks : cHd E.st td.N td.sc (h₀ :: hs) = some ks) :
    PE X (.Call (.Name x p) [.Lambda lp lb ls lpos] [] pos) (rd G W (acTold (subT E.st) td.N.length kd ks (cE o n (lamE E ls) false lb))) := by
  obtain ⟨kb, c, P, hr, hst, TB, hcode, hmT, hu⟩ := hc.lam hl
  obtain ⟨g, pg, dV, kV, doc, pm, cdv, ct, oc, an, od, osl, hm, hk, lk, hcg, hb, Sg⟩ := hc.st.told x td htd
  have hpre : td.N.take 1 = [td.a] := Sg.pre
  have h0 : td.N[0]? = some td.a := by
    have := congrArg (fun l : List Str => l[0]?) hpre
    simpa using this
  have hva : Vis td.sc td.a := by
    rcases Sg.par td.a List.mem_cons_self with q | q
    · exact .inl q
    · exact .inr (.inl q)
  have hun : ∀ s H Ex, (cxOf (CX X.prog X.w) X.prog X.w X.K X.mg X.base td.N x td.sc g cdv X.A X.stack s H Ex).A.units + 65 < cLine := fun s H Ex => by
    have := hr.un
    show X.A.units + 3 + 65 < cLine
    omega
  refine pe_told hc.xn hc.tk (gl_ok hc hg) hm hk lk hcg hb Sg h0 hva (tdP_ok htp) hc.st.sub (fun s H Ex => hds_of (Y := cxOf (CX X.prog X.w) X.prog X.w X.K X.mg X.base td.N x td.sc g cdv X.A X.stack s H Ex) hc.K rfl rfl (hun s H Ex) (fun x xi e => (hc.st.exs x xi e).mg) hc.st.xf _ _ hks) TB hcode hmT hu hr (LamX.lamS_by (by rw [hc.sc]; exact hls)) (nopar_def hp) (fun _ _ _ _ _ => nopar_bind hp) (fun A' outer s H Ex f c' hr2 => ?_) (nameOk1 hn) (nameOk1 ha) (nameOk2 ha)
  · refine ih.e (lamE E ls) (LamX.lamCx X A' outer s H Ex ls f c') (fun c d _ H => Ex c d H) ⟨hc.K, rfl, hc.N, hc.nd, rfl, rfl, hst A' outer s H Ex ls f c' hr2, takes_of (E₁ := fun e' s'' => CX X.prog X.w outer H s Ex e' s'') rfl rfl rfl rfl, ?_, hc.xn, (fun z => by cases z), (fun z => by cases z)⟩ false lb
    have := hr2.un
    show (A'.deeper _).units + 65 < cLine
    omega
theorem snd_callN (ih : Snd G o n) (hc : COk E X G o W) (lv : Bool) (x : Str) (p pos : Pos) (args : List Expr) : PE X (.Call (.Name x p) args [] pos) (rd G W (cE o (n + 1) E lv (.Call (.Name x p) args [] pos))) := by
  simp only [cE]
  split
  case isFalse => exact pe_no
  rename_i hh
  obtain ⟨hn, hg⟩ := hh
  split
  · rename_i lp lb ls hld
    obtain ⟨lpos, rfl⟩ := ld_of hld
    split
    · rename_i td htd
      split
      · rename_i hz
        split
        · rename_i kd h₀ hs htp
          split
          · rename_i ks hks
            exact snd_lam ih hc hn hg htd hz.1 hz.2.1 hz.2.2.1 hz.2.2.2 htp hks
          · exact pe_no
        · exact pe_no
      · exact pe_no
    · exact pe_no
  split
  · rename_i a b hdz
    obtain ⟨rfl, h1, h2, p1, q1, rfl⟩ := dz_of hdz
    split
    · rename_i hz
      exact pe_dz lv hc.K hc.calm (gl_ok hc hg) (hc.st.blt _ (by decide +kernel) hz.2.2) (gl_ok hc hz.1) (hc.st.blt _ (by decide +kernel) hz.2.1) (ih.e E X W hc false a) (ih.e E X W hc false b) h1 h2
    · exact pe_no
  split
  · rename_i a ob hlr
    obtain ⟨rfl, h1, h2⟩ := lr_args hlr
    split
    · rename_i hz
      rcases h2 with ⟨rfl, p1, q1, rfl⟩ | ⟨b, rfl, h2, p1, q1, rfl⟩
      · exact pe_lr1 lv hc.calm (gl_ok hc hg) (hc.st.blt _ (by decide +kernel) hz.2.2) (gl_ok hc hz.1) (hc.st.blt _ (by decide +kernel) hz.2.1) (ih.e E X W hc false a) h1
      · exact pe_lr2 lv hc.calm (gl_ok hc hg) (hc.st.blt _ (by decide +kernel) hz.2.2) (gl_ok hc hz.1) (hc.st.blt _ (by decide +kernel) hz.2.1) (ih.e E X W hc false a) (ih.e E X W hc false b) h1 h2
    · exact pe_no
  split
  · rename_i a hls
    obtain ⟨rfl, h1, p1, q1, rfl⟩ := ls_of hls
    split
    · rename_i hz
      exact pe_lsD hc.K hc.calm (gl_ok hc hg) (hc.st.blt _ (by decide +kernel) hz.2.2) (gl_ok hc hz.1) (hc.st.blt _ (by decide +kernel) hz.2.1) (ih.e E X W hc false a) h1
    · exact pe_no
  split
  · rename_i i ar hf
    obtain ⟨fa, k, F, hr, hm, hk⟩ := hc.st.fns x i ar hf
    cases args with
    | nil => exact pe_call0D F hr hc.tk (gl_ok hc hg) hm hk (nameOk1 hn)
    | cons a es =>
      simp only
      split
      · rename_i hs
        exact pe_callD F hr hc.tk (gl_ok hc hg) hm hk (ih.l E X W hc (a :: es)) (nameOk1 hn) (star_cons hs.1) (star_any hs.2)
      · exact pe_no
  · split
    · rename_i ci hci
      obtain ⟨fa, k, M, F, hr, hm⟩ := hc.st.cls x ci hci
      cases args with
      | nil => exact pe_no
      | cons a es =>
        simp only
        split
        · rename_i hs
          split
          · exact pe_makeL M F hr hc.tk (gl_ok hc hg) hm (ih.l E X W hc (a :: es)) (nameOk1 hn) (star_cons hs.1) (star_any hs.2)
          · exact pe_makeD M F hr hc.tk (gl_ok hc hg) hm (ih.l E X W hc (a :: es)) (nameOk1 hn) (star_cons hs.1) (star_any hs.2)
        · exact pe_no
    · split
      · exact pe_no
      · rename_i hgl
        split
        · rename_i ty id pp hb
          obtain ⟨h1, h2⟩ := bfun_ok hc hb
          have hm : X.mg x = none := hc.st.blt x h1 (by simpa using hgl)
          cases args with
          | nil => exact pe_no
          | cons a es =>
            simp only
            split
            · rename_i hs
              rcases h2 with ⟨_, hv, cr⟩ | ⟨_, hv, cr⟩
              · exact pe_callBD cr (gl_ok hc hg) hm hv (ih.l E X W hc (a :: es)) (nameOk3 hn) (nameOk1 hn) (star_cons hs.1) (star_any hs.2)
              · exact pe_callTyD cr (gl_ok hc hg) hm hv (ih.l E X W hc (a :: es)) (nameOk3 hn) (nameOk1 hn) (star_cons hs.1) (star_any hs.2)
            · exact pe_no
        · exact pe_no
theorem few_cons {a : Expr} {es : List Expr} (h : fewB (a :: es) = true) : noStar a = true ∧ es.all noStar = true := by
  simp only [fewB, List.all_cons, Bool.and_eq_true] at h
  exact h.1
theorem snd_callA (ih : Snd G o n) (hc : COk E X G o W) (lv : Bool) (r : Expr) (m : Str) (apos pos : Pos) (args : List Expr) : PE X (.Call (.Attribute r m apos) args [] pos) (rd G W (cE o (n + 1) E lv (.Call (.Attribute r m apos) args [] pos))) := by
  simp only [cE]
  split
  case isFalse => exact pe_no
  rename_i hh
  obtain ⟨hsup, hfew, hline⟩ := hh
  split
  · rename_i tb htb
    cases args with
    | nil => exact pe_m0D hc.K (mtab_ok hc htb) (ih.e E X W hc false r) (base_of hsup) hline
    | cons a es =>
      obtain ⟨h1, h2⟩ := few_cons hfew
      exact pe_m hc.K (mtab_ok hc htb) (ih.e E X W hc false r) (ih.l E X W hc (a :: es)) (base_of hsup) (few_of hfew) hline (star_cons h1) (star_any h2)
  · split
    · rename_i mi hmi
      obtain ⟨fa, k, hk, hm, F, hr⟩ := hc.st.mets m mi hmi
      cases args with
      | nil =>
        simp only
        split
        · rename_i h0
          rw [h0] at F
          exact pe_met0D (ih.e E X W hc false r) hk hm F hr hc.tk (meth_eval hfew hline (base_of hsup))
        · exact pe_no
      | cons a es =>
        obtain ⟨h1, h2⟩ := few_cons hfew
        exact pe_metD (ih.e E X W hc false r) hk hm F hr hc.tk (ih.l E X W hc (a :: es)) (star_cons h1) (star_any h2) (meth_eval hfew hline (base_of hsup))
    · exact pe_no
theorem snd_cmp (ih : Snd G o n) (hc : COk E X G o W) (lv : Bool) (a : Expr) (ops : List CmpOp) (cs : List Expr) (pos : Pos) : PE X (.Compare a ops cs pos) (rd G W (cE o (n + 1) E lv (.Compare a ops cs pos))) := by
  simp only [cE]
  split
  · split
    · rename_i f hf
      split
      · exact pe_no
      · rename_i hm
        exact pe_cmp2 (cmpP_ok hc hf) (ih.e E X W hc false _) (ih.e E X W hc false _) (by simpa using hm)
    · exact pe_no
  · split
    · rename_i f g hf hg
      split
      · exact pe_no
      · rename_i hm
        exact pe_ch (cmpP_ok hc hf) (cmpP_ok hc hg) (ih.e E X W hc false _) (ih.e E X W hc false _) (ih.e E X W hc false _) (by simpa using hm)
    · exact pe_no
  · exact pe_no
theorem pt_cmpX (ih : Snd G o n) (hc : COk E X G o W) (a : Expr) (ops : List CmpOp) (cs : List Expr) (pos : Pos) : PT X (.Compare a ops cs pos) (rdB G W (tbV (cE o (n + 1) E false (.Compare a ops cs pos)))) := by
  have no : ∀ {e : Expr}, PT X e (rdB G W (tbV acNo)) := fun {e} => ⟨fun _ _ _ _ _ _ ⟨_, _, _, _, _, _, _, h⟩ => h.elim⟩
  simp only [cE]
  split
  · split
    · rename_i f hf
      split
      · exact no
      · rename_i hm
        exact pt_cmp2 (cmpP_ok hc hf) (ih.e E X W hc false _) (ih.e E X W hc false _) (by simpa using hm) (cmpP_bl hf)
    · exact no
  · split
    · rename_i f g hf hg
      split
      · exact no
      · rename_i hm
        exact pt_ch (cmpP_ok hc hf) (cmpP_ok hc hg) (ih.e E X W hc false _) (ih.e E X W hc false _) (ih.e E X W hc false _) (by simpa using hm) (cmpP_bl hg)
    · exact no
  · exact no
end
end Lo
namespace Lo
open PySem PySem.Spec PyProof.Rows L2
section
variable {X : Cx} {G : GI} {o : Orc} {W : WX} {E : CE} {n : Nat}
theorem snd_e (ih : Snd G o n) (hc : COk E X G o W) (lv : Bool) (x : Expr) : PE X x (rd G W (cE o (n + 1) E lv x)) := by
  cases x with
  | Constant c k p =>
    cases c with
    | none => exact pe_const pe_non fun _ _ _ => .non
    | bool b => exact pe_const pe_bl fun _ _ _ => .bl b
    | int i => exact pe_const pe_int fun _ _ _ => .int i
    | str s => exact pe_const pe_str fun _ _ _ => .str s
    | _ => exact pe_no
  | Name x p => exact snd_name hc lv x p
  | BinOp a op b p =>
    simp only [cE]
    split
    · rename_i f hf
      exact pe_bin (opP_ok hc hf) (ih.e E X W hc false a) (ih.e E X W hc false b)
    · exact pe_no
  | UnaryOp op a p =>
    cases op with
    | USub => exact pe_una ur_neg (ih.e E X W hc false a)
    | Not => exact pe_notD (ih.e E X W hc false a)
    | _ => exact pe_no
  | BoolOp op es p =>
    match es with
    | [] => exact pe_no
    | [a] => exact pe_one (ih.e E X W hc false a)
    | a :: b :: r =>
      cases op with
      | And => exact pe_andD (ih.e E X W hc false a) (ih.e E X W hc false (.BoolOp .And (b :: r) p))
      | Or => exact pe_orD (ih.e E X W hc false a) (ih.e E X W hc false (.BoolOp .Or (b :: r) p))
  | Compare a ops cs p => exact snd_cmp ih hc lv a ops cs p
  | IfExp c a b p => exact pe_ifD (ih.t E X W hc c) (ih.e E X W hc lv a) (ih.e E X W hc lv b)
  | Tuple es k p => exact pe_tupD (ih.l E X W hc es)
  | List es p => exact pe_lstD lv (ih.l E X W hc es)
  | Dict ks vs p =>
    have pps : ∀ (ks : List (Option Expr)) (vs : List Expr), ks.all (·.isSome) = true → ks.length = vs.length → PPs X p ks vs (((ks.zip vs).map fun q => ((match q.1 with | some k => cE o n E false k | none => acNo), cE o n E false q.2)).map fun q => (rd G W q.1, rd G W q.2)) := by
      intro ks
      induction ks with
      | nil => intro vs _ h2; match vs, h2 with | [], _ => exact pps_nil
      | cons k r ihk =>
        intro vs h1 h2
        match vs, h2 with
        | v :: vs, h2 =>
          simp only [List.all_cons, Bool.and_eq_true] at h1
          cases k with
          | none => cases h1.1
          | some k => exact pps_cons (ih.e E X W hc false k) (ih.e E X W hc false v) (ihk vs h1.2 (by simpa using h2))
    match ks, vs with
    | [], [] => exact pe_dnewD lv
    | k :: ks, vs =>
      simp only [cE]
      split
      · rename_i hh
        exact pe_dspD lv (pps _ _ hh.2.1 hh.2.2.1) hh.2.1 hh.2.2.1 hh.1 hh.2.2.2
      · exact pe_no
    | [], v :: vs =>
      simp only [cE]
      split
      · rename_i hh
        exact absurd rfl hh.1
      · exact pe_no
  | FormattedValue e c sp p =>
    cases sp with
    | some _ => exact pe_no
    | none =>
      simp only [cE]
      split
      · rename_i hh
        subst hh
        exact pe_fmD (ih.e E X W hc false e)
      · exact pe_no
  | JoinedStr vs p =>
    have pj : ∀ vs : List Expr, PJ X vs ((vs.map fun e => cE o n E false e).map fun A => rd G W A) := by
      intro vs
      induction vs with
      | nil => exact .nil
      | cons v r ihv => exact .cons (ih.e E X W hc false v) ihv
    match vs with
    | [] => exact pe_no
    | [e] => exact pe_joined1 (ih.e E X W hc false e)
    | v1 :: v2 :: rest => exact pe_jsD (pj _)
  | ListComp elt gs scope p =>
    simp only [cE]
    split
    · split
      · rename_i tg it ifs a hh
        obtain ⟨h1, h2⟩ := hh
        subst h1
        exact ih.c E X W hc lv elt tg it ifs scope p h2
      · exact pe_no
    · exact pe_no
  | DictComp k v gs scope p =>
    simp only [cE]
    split
    · split
      case isFalse => exact pe_no
      rename_i tg it ifs a hh
      obtain ⟨h1, hs⟩ := hh
      subst h1
      split
      case isFalse => exact pe_no
      rename_i hb
      split
      · rename_i t ht
        split
        · rename_i hsl
          refine pe_dcD lv hc.calm (by rw [hc.N]; exact hc.nd) (ih.i E X W hc tg it) (blkOk_by (by rw [hc.N, hc.sc]; exact hb)) (slOk_of hsl) (fun s H C cl fp => ?_) (fun s H C cl fp => ?_) (fun s H C cl fp => ?_) (fun s H C cl fp => ?_) (fold_of hs)
          · exact cTgX_ok n (hc.blk s H scope C cl fp) ht
          · exact ih.f _ _ _ (hc.blk s H scope C cl fp) ifs
          · exact ih.e _ _ _ (hc.blk s H scope C cl fp) false k
          · exact ih.e _ _ _ (hc.blk s H scope C cl fp) false v
        · exact pe_no
      · exact pe_no
    · exact pe_no
  | Call f args kws p =>
    cases kws with
    | cons _ _ => exact pe_no
    | nil =>
      cases f with
      | Name x q => exact snd_callN ih hc lv x q p args
      | Attribute r m q => exact snd_callA ih hc lv r m q p args
      | _ => exact pe_no
  | Attribute a f p =>
    simp only [cE]
    split
    · rename_i hs
      exact pe_attrD hc.K (hc.st.ats f) (ih.e E X W hc false a) (base_of hs)
    · exact pe_no
  | Subscript a b p =>
    by_cases hb : noSlice b = true
    · have : cE o (n + 1) E lv (.Subscript a b p) = (match wdOf E.st.wd a with
          | some (x, l) => if nameOk x = true ∧ glB E.sc x = true then acWd l (cE o n E false b) else ac2 itemP (cE o n E false a) (cE o n E false b)
          | none => ac2 itemP (cE o n E false a) (cE o n E false b)) := by
        cases b <;> first | (cases hb; done) | rfl
      rw [this]
      split
      · rename_i x l hwd
        obtain ⟨p0, rfl, hl⟩ := wdOf_ok hwd
        split
        · rename_i hh
          exact pe_wd (gl_ok hc hh.2) (hc.st.wd x l hl) (nameOk1 hh.1) (ih.e E X W hc false b) (plain_ix hb)
        · exact pe_item hc.K hc.un (ih.e E X W hc false _) (ih.e E X W hc false b) (plain_ix hb)
      exact pe_item hc.K hc.un (ih.e E X W hc false a) (ih.e E X W hc false b) (plain_ix hb)
    · cases b with
      | Slice lo hi st q =>
        cases st with
        | some st =>
          simp only [cE]
          split
          · rename_i hh
            obtain ⟨e1, e2, k, p1, p2, e3⟩ := rev_of hh
            cases e3
            subst e1 e2
            exact pe_revD lv hc.K (ih.e E X W hc false a)
          · exact pe_no
        | none =>
          refine pe_sliceD hc.K lv (ih.e E X W hc false a) ?_ ?_
          · cases lo with
            | none => exact po_noneD
            | some y => exact po_someD (ih.e E X W hc false y)
          · cases hi with
            | none => exact po_noneD
            | some y => exact po_someD (ih.e E X W hc false y)
      | _ => exact absurd rfl hb
  | _ => exact pe_no
theorem snd_w (ih : Snd G o n) (hc : COk E X G o W) (op : BoolOp) (es : List Expr) (pos : Pos) : PW X (.BoolOp op es pos) (rdB G W (cT o (n + 1) E (.BoolOp op es pos))) := by
  match es with
  | [] => exact pw_noD
  | [a] =>
    cases op with
    | And => exact pw_and1 (ih.t E X W hc a)
    | Or => exact pw_or1 (ih.t E X W hc a)
  | a :: b :: r =>
    cases op with
    | And => exact pw_andD (ih.t E X W hc a) (ih.w E X W hc .And (b :: r) pos)
    | Or => exact pw_orD (ih.t E X W hc a) (ih.w E X W hc .Or (b :: r) pos)
theorem snd_t (ih : Snd G o n) (hc : COk E X G o W) (x : Expr) : PT X x (rdB G W (cT o (n + 1) E x)) := by
  have els : ∀ e, plainT e = true → PT X e (rdB G W (tbV (cE o n E false e))) := fun e h => pt_v hc.K (ih.e E X W hc false e) (plain_test h)
  cases x with
  | UnaryOp op a p =>
    cases op with
    | Not => exact pt_notD (ih.t E X W hc a)
    | _ => exact els _ rfl
  | BoolOp op es p => exact (snd_w ih hc op es p).pt
  | Compare a ops cs p => exact ih.p E X W hc a ops cs p
  | IfExp _ _ _ _ => exact pt_noD
  | _ => exact els _ rfl
theorem snd_l (ih : Snd G o n) (hc : COk E X G o W) (es : List Expr) : PA X es (rdA G W (cL o (n + 1) E es)) := by
  cases es with
  | nil => exact pa_nilD
  | cons a r =>
    by_cases hs : noStar a = true
    · have : cL o (n + 1) E (a :: r) = alCons (cE o n E false a) (cL o n E r) := by
        cases a <;> first | (cases hs; done) | rfl
      rw [this]
      exact pa_consD (ih.e E X W hc false a) (ih.l E X W hc r) (star_cons hs)
    · cases a with
      | Starred b p => exact pa_starD hc.K (ih.e E X W hc false b) (ih.l E X W hc r)
      | _ => exact absurd rfl hs
theorem snd_f (ih : Snd G o n) (hc : COk E X G o W) (es : List Expr) : PTs X es (rdB G W (cIf o (n + 1) E es)) := by
  match es with
  | [] => exact pts_nilD
  | [c] => exact pts_oneD (ih.t E X W hc c)
  | _ :: _ :: _ => exact pts_noD
theorem tup_of {tg : Expr} (h : notTup tg = false) : ∃ es k p, tg = .Tuple es k p := by
  cases tg <;> first | exact ⟨_, _, _, rfl⟩ | cases h
theorem snd_i (ih : Snd G o n) (hc : COk E X G o W) (tg it : Expr) : PI X tg it (rdI G W (cI o (n + 1) E tg it)) := by
  have els : ∀ e, PI X tg e (rdI G W (acIt (cE o n E false e))) := fun e => pi_valD hc.K (ih.e E X W hc false e)
  cases it with
  | Call f args kws cpos =>
    cases kws with
    | cons _ _ => exact pi_noD
    | nil =>
      cases f with
      | Name x np =>
        simp only [cI]
        split
        · rename_i hh
          obtain ⟨rfl, hg, hgl, hs⟩ := hh
          have hm : X.mg "range" = none := hc.st.blt _ (by decide +kernel) hgl
          match args, hs with
          | [], _ => exact pi_noD
          | [a], hs => exact pi_rng1D (gl_ok hc hg) hm (ih.e E X W hc false a) (star_cons (by simpa using hs))
          | [a, b], hs =>
            have hs : noStar a = true ∧ noStar b = true := by simpa using hs
            exact pi_rng2D (gl_ok hc hg) hm (ih.e E X W hc false a) (ih.e E X W hc false b) (star_cons hs.1) (star_cons hs.2)
          | _ :: _ :: _ :: _, _ => exact pi_noD
        · split
          · rename_i hh
            obtain ⟨rfl, hg, hgl, hs, ht⟩ := hh
            obtain ⟨es, k, p, rfl⟩ := tup_of ht
            have hm : X.mg "enumerate" = none := hc.st.blt _ (by decide +kernel) hgl
            match args, hs with
            | [], _ => exact pi_noD
            | [a], hs => exact pi_enumD hc.K (gl_ok hc hg) hm (ih.e E X W hc false a) (star_cons (by simpa using hs))
            | _ :: _ :: _, _ => exact pi_noD
          · split
            · rename_i hh
              obtain ⟨rfl, hg, hgl, hs, ht⟩ := hh
              obtain ⟨es, k, p, rfl⟩ := tup_of ht
              have hm : X.mg "zip" = none := hc.st.blt _ (by decide +kernel) hgl
              match args, hs with
              | [], _ => exact pi_noD
              | [a], _ => exact pi_noD
              | [a, b], hs =>
                have hs : noStar a = true ∧ noStar b = true := by simpa using hs
                exact pi_zipD hc.K (gl_ok hc hg) hm (ih.e E X W hc false a) (ih.e E X W hc false b) (star_cons hs.1) (star_cons hs.2)
              | _ :: _ :: _ :: _, _ => exact pi_noD
            · exact els _
      | Attribute r m apos =>
        simp only [cI]
        split
        · rename_i hh
          obtain ⟨rfl, rfl, hs, hl⟩ := hh
          exact pi_valuesD (ih.e E X W hc false r) (base_of hs) hl
        · split
          · rename_i hh
            obtain ⟨rfl, rfl, hs, hl⟩ := hh
            exact pi_keysD (ih.e E X W hc false r) (base_of hs) hl
          · split
            · rename_i hh
              obtain ⟨rfl, rfl, hs, hl, ht⟩ := hh
              obtain ⟨es, k, p, rfl⟩ := tup_of ht
              exact pi_itemsD (ih.e E X W hc false r) (base_of hs) hl
            · exact els _
      | _ => exact pi_noD
  | _ => exact els _
theorem snd (G : GI) (o : Orc) : ∀ n, Snd G o n
  | 0 => ⟨fun _ _ _ _ _ _ => pe_no, fun _ _ _ _ _ => pt_noD, fun _ _ _ _ _ _ _ => pw_noD, fun _ _ _ _ _ => pa_noD, fun _ _ _ _ _ => pts_noD, fun _ _ _ _ _ _ _ _ _ _ _ _ => pe_no, fun _ _ _ _ _ _ => pi_noD,
      fun _ _ _ _ _ _ _ _ => ⟨fun _ _ _ _ _ _ ⟨_, _, _, _, _, _, _, h⟩ => h.elim⟩⟩
  | n + 1 =>
    have ih := snd G o n
    ⟨fun E X W hc => snd_e ih hc, fun E X W hc => snd_t ih hc, fun E X W hc => snd_w ih hc, fun E X W hc => snd_l ih hc, fun E X W hc => snd_f ih hc, fun E X W hc => snd_c ih hc, fun E X W hc => snd_i ih hc, fun E X W hc => pt_cmpX ih hc⟩
end
end Lo
namespace Lo
open PySem PySem.Spec PyProof.Rows L2
def ipP : Operator → Option P2
  | .Add => some (intP yes2 fun i j => .int (i + j))
  | .Sub => some (intP yes2 fun i j => .int (i - j))
  | _ => none
def scAugN (i : Nat) (f : P2) (V : Ac) : Sc := fun s h => match s[i]? with
  | some (some d) => (V s h).bindS s fun e h1 => match f d e h1 with
    | some (z, h2) => .nx (s.set i (some z)) h2
    | none => .no
  | _ => .no
def scAugA (T : ATab) (fld : Str) (f : P2) (A V : Ac) : Sc := fun s h => (A s h).bindS s fun d h1 => match d with
  | .loc n => match h1[n]? with
    | some (.ind c fs) => match T c with
      | some .fld => match fs.lookup fld with
        | some x => (V s h1).bindS s fun e h2 => match f x e h2 with
          | some (z, h3) => match h3[n]? with
            | some (.ind c' fs') => if c' = c ∧ fs'.length < 1000 then .nx s (h3.set n (.ind c (putFD fld z fs'))) else .no
            | _ => .no
          | none => .no
        | none => .no
      | _ => .no
    | _ => .no
  | _ => .no
section
variable {X : Cx} {G : GI} {W : WX} {e ob : Expr} {pos pos' : Pos} {A V : Ac} {f : P2}
theorem ipP_ok {op : Operator} (h : ipP op = some f) : PIp X op (rop G f) := by
  have gen : ∀ (g : Int → Int → Int), PIp X op (ipI g) → f = intP yes2 (fun i j => .int (g i j)) → PIp X op (rop G f) := fun g hp ef => by
    subst ef
    intro pins s σ H x y v u Q I rx ry h
    obtain ⟨ρ, h0, F, R, d, e, r, q1, q2, wp⟩ := h
    cases d <;> try exact wp.elim
    cases e <;> try exact wp.elim
    cases q1
    cases q2
    exact hp pins s σ H _ _ v u Q I rx ry ⟨_, _, rfl, rfl, wp_val r wp (.int _)⟩
  cases op <;> simp only [ipP] at h <;> cases h
  · exact gen _ ip_add rfl
  · exact gen _ ip_sub rfl
theorem ps_augND {i : Nat} {x : Str} {op : Operator} (hN : X.N.Nodup) (hi : X.N[i]? = some x) (hx : Loc X.env.scope x) (he : PE X e (rd G W V)) (ho : ipP op = some f) (hf : X.fn x = true ∨ X.env.scope.names.lookup x = some .local) :
    PS X (.AugAssign (.Name x pos') op e pos) (rdS G W (scAugN i f V)) :=
  (ps_aug hN hi hx he (ipP_ok (G := G) ho) hf).weakL fun E σ H ⟨ρ, s, h, F, R, r, sr, wp⟩ => by
    unfold scAugN at wp
    cases e1 : s[i]? with
    | none => rw [e1] at wp; exact wp.elim
    | some od =>
      cases od with
      | none => rw [e1] at wp; exact wp.elim
      | some d =>
        rw [e1] at wp
        simp only at wp
        obtain ⟨v, hv, qv⟩ := sr.val i d e1
        refine ⟨v, hv, stepS (L := LD G) r sr wp fun ρ1 h1 F1 e' w H1 x1 r1 q1 wp1 => ?_⟩
        refine ⟨ρ1, h1, F1, R, d, e', r1, qv.mono x1, q1, ?_⟩
        cases e2 : f d e' h1 with
        | none => rw [e2] at wp1; exact wp1.elim
        | some p =>
          obtain ⟨z, h2⟩ := p
          rw [e2] at wp1
          intro ρ2 F2 w2 H2 x2 r2 q2
          exact wp1 ρ2 F2 _ H2 x2 r2 (((sr.mono x1).mono x2).set q2)
theorem ps_augAD {T : ATab} {fld : Str} {op : Operator} (hK : X.K = G.K) (hT : ∀ c k, T c = some k → AOk X G c fld k) (ha : PE X ob (rd G W A)) (he : PE X e (rd G W V)) (ho : ipP op = some f) :
    PS X (.AugAssign (.Attribute ob fld pos') op e pos) (rdS G W (scAugA T fld f A V)) :=
  (ps_fldaug ha he (show InOp X op (rop G f) from ipP_ok (G := G) ho)).weakL fun E σ H ⟨ρ, s, h, F, R, r, sr, wp⟩ => by
    refine stepS (L := LD G) r sr wp fun ρ1 h1 F1 d x H1 x1 r1 q1 wp1 => ?_
    cases d with
    | loc n =>
      cases q1 with
      | loc _ hn =>
        simp only at wp1
        cases e0 : h1[n]? with
        | none => rw [e0] at wp1; exact wp1.elim
        | some o =>
          rw [e0] at wp1
          cases o with
          | ind c fs =>
            simp only at wp1
            cases ek : T c with
            | none => rw [ek] at wp1; exact wp1.elim
            | some k =>
              rw [ek] at wp1
              cases hT c k ek with
              | slot _ _ => exact wp1.elim
              | prop _ _ _ _ _ _ _ => exact wp1.elim
              | fld cl na =>
                simp only at wp1
                cases el : fs.lookup fld with
                | none => rw [el] at wp1; exact wp1.elim
                | some x0 =>
                  rw [el] at wp1
                  simp only at wp1
                  obtain ⟨dx, vs, a1, a2⟩ := r1.lv n _ e0
                  obtain ⟨v, hv, qv⟩ := a2.lookup el
                  refine ⟨_, _, dx, vs, v, rfl, a1, cl, na, hv, stepS (L := LD G) r1 (sr.mono x1) wp1 fun ρ2 h2 F2 e' w H2 x2 r2 q2 wp2 => ?_⟩
                  refine ⟨ρ2, h2, F2, R, x0, e', r2, qv.mono x2, q2, ?_⟩
                  cases e2 : f x0 e' h2 with
                  | none => rw [e2] at wp2; exact wp2.elim
                  | some p =>
                    obtain ⟨z, h3⟩ := p
                    rw [e2] at wp2
                    intro ρ3 F3 w3 H3 x3 r3 q3
                    simp only at wp2
                    cases e3 : h3[n]? with
                    | none => rw [e3] at wp2; exact wp2.elim
                    | some o3 =>
                      rw [e3] at wp2
                      cases o3 with
                      | ind c' fs' =>
                        simp only at wp2
                        by_cases hz : c' = c ∧ fs'.length < 1000
                        case neg => rw [if_neg hz] at wp2; exact wp2.elim
                        rw [if_pos hz] at wp2
                        obtain ⟨rfl, hz⟩ := hz
                        obtain ⟨dx', vs', b1, b2⟩ := r3.lv n _ e3
                        have en : ρ3.ob n = ρ1.ob n := (x2.trans x3).same n hn
                        refine ⟨dx', vs', by rw [← en]; exact b1, by rw [← b2.length]; exact hz, ?_⟩
                        have hn3 : n < h3.length := (List.getElem?_eq_some_iff.mp e3).1
                        have r' := r3.put (o := .ind c' (putFD fld z fs')) (u := .ins (G.clA c') dx' (putF fld w3 vs')) rfl hn3 ⟨dx', _, upd_same, b2.put q3⟩
                        have hl : (h3.set n (.ind c' (putFD fld z fs'))).length = h3.length := List.length_set
                        rw [← en]
                        exact wp2 ρ3 F3 σ _ (by rw [hl]; exact x3) r' (by rw [hl]; exact ((sr.mono x1).mono x2).mono x3)
                      | lst _ => exact wp2.elim
                      | dic _ => exact wp2.elim
                      | ins _ _ => exact wp2.elim
          | lst _ => exact wp1.elim
          | dic _ => exact wp1.elim
          | ins _ _ => exact wp1.elim
    | _ => exact wp1.elim
theorem ps_par3D {L : AcL} {i j l : Nat} {x y z : Str} {a b c : Expr} {px py pz pt pos : Pos} {kt k2 pt2} (hc : X.calm = true) (hN : X.N.Nodup) (hi : X.N[i]? = some x) (hj : X.N[j]? = some y) (hl : X.N[l]? = some z) (hij : i ≠ j) (hil : i ≠ l) (hjl : j ≠ l)
    (hx : X.env.scope.names.lookup x = some .local) (hy : X.env.scope.names.lookup y = some .local) (hz : X.env.scope.names.lookup z = some .local) (ha : PA X [a, b, c] (rdA G W L))
    (hw : swappedStores [.Tuple [.Name x px, .Name y py, .Name z pz] kt pt] (.Tuple [a, b, c] k2 pt2) X.env = pure (some [x, y, z]))
    (hs : swapsWithSole [.Tuple [.Name x px, .Name y py, .Name z pz] kt pt] (.Tuple [a, b, c] k2 pt2) pos.line X.env = pure false) :
    PS X (.Assign [.Tuple [.Name x px, .Name y py, .Name z pz] kt pt] (.Tuple [a, b, c] k2 pt2) pos) (rdS G W (scPar [.nm i, .nm j, .nm l] L)) :=
  (ps_par3 hc hN hi hj hl hij hil hjl hx hy hz ha hw hs).weakL fun E σ H ⟨ρ, s, h, F, R, r, sr, wp⟩ => stepS (L := LDs G) r sr wp fun ρ1 h1 F1 ds vs H1 x1 r1 q wp1 => by
    cases e1 : asgTs [.nm i, .nm j, .nm l] ds s with
    | none => rw [e1] at wp1; exact wp1.elim
    | some s' =>
      rw [e1] at wp1
      have hlen := asgTs_len e1
      match ds, q, hlen, e1 with
      | [d1, d2, d3], .cons (v := v1) q1 (.cons (v := v2) q2 (.cons (v := v3) q3 .nil)), _, e1 =>
        simp only [asgTs, asgT] at e1
        cases e1
        exact ⟨v1, v2, v3, rfl, wp1 ρ1 F1 _ H1 (Ext.refl _ _ _) r1 ((((sr.mono x1).set q1).set q2).set q3)⟩
end
def parB (E : CE) (xs : List (Str × Pos)) (vs : List Expr) : Bool :=
  (match E.sc.kind with | .function => true | _ => false) && vs.all noStar && xs.all (fun p => locB E.sc p.1) && xs.all (fun p => p.2.line == (xs.head?.map (·.2.line)).getD 0) && decide ((xs.map (·.1)).eraseDups.length = xs.length) && !(vs.all (foldedForSure 8)) && !(vs.all (constantsAlone 8))
theorem noStar_any {vs : List Expr} (h : vs.all noStar = true) : (vs.any fun | .Starred .. => true | _ => false) = false := by
  induction vs with
  | nil => rfl
  | cons a r ih =>
    simp only [List.all_cons, Bool.and_eq_true] at h
    simp only [List.any_cons, ih h.2, Bool.or_false]
    cases a <;> first | rfl | cases h.1
theorem par_stores {E : CE} {env : Env} (hsc : env.scope = E.sc) {xs : List (Str × Pos)} {kt : Nat} {pt : Pos} {vs : List Expr} {k2 : Nat} {pt2 : Pos} (hl : xs.length = 2 ∨ xs.length = 3) (hv : vs.length = xs.length) (h : parB E xs vs = true) :
    swappedStores [.Tuple (xs.map fun p => .Name p.1 p.2) kt pt] (.Tuple vs k2 pt2) env = pure (some (xs.map (·.1))) := by
  simp only [parB, Bool.and_eq_true, Bool.not_eq_true', decide_eq_true_eq] at h
  obtain ⟨⟨⟨⟨⟨⟨h1, h2⟩, h3⟩, h4⟩, h5⟩, h6⟩, h7⟩ := h
  have hk : E.sc.kind = .function := by
    cases e : E.sc.kind <;> first | rfl | (rw [e] at h1; cases h1)
  have hb : (env.blockKind != .function) = false := by
    unfold Env.blockKind
    rw [hsc, hk]
    rfl
  have hst : (vs.any fun | .Starred .. => true | _ => false) = false := noStar_any h2
  have hline : ((xs.map fun p => Expr.Name p.1 p.2).head?.map (·.pos.line)).getD 0 = (xs.head?.map (·.2.line)).getD 0 := by
    cases xs with
    | nil => rfl
    | cons a r => rfl
  have hnames : (xs.map fun p => Expr.Name p.1 p.2).filterMap (fun
    | .Name id pos => if env.kindOf id == some .local && pos.line == (xs.head?.map (·.2.line)).getD 0 then some id else none
    | _ => none) = xs.map (·.1) := by
    rw [List.filterMap_map]
    have : ∀ p ∈ xs, ((fun
      | Expr.Name id pos => if env.kindOf id == some .local && pos.line == (xs.head?.map (·.2.line)).getD 0 then some id else none
      | _ => none) ∘ fun (p : Str × Pos) => Expr.Name p.1 p.2) p = some p.1 := fun p hp => by
      have a1 := List.all_eq_true.mp h3 p hp
      have a2 := List.all_eq_true.mp h4 p hp
      have a3 : env.kindOf p.1 = some .local := by unfold Env.kindOf; rw [hsc]; exact loc_of a1
      show (if env.kindOf p.1 == some .local && p.2.line == (xs.head?.map (·.2.line)).getD 0 then some p.1 else none) = _
      rw [a3, a2]
      rfl
    clear hline h4 h3 hst hb hv hl h5 h6 h7
    generalize (xs.head?.map (·.2.line)).getD 0 = ln at this ⊢
    induction xs with
    | nil => rfl
    | cons a r ih =>
      rw [List.filterMap_cons, this a List.mem_cons_self]
      simp only [List.map_cons]
      rw [ih fun p hp => this p (List.mem_cons_of_mem _ hp)]
  have hlen : (!((xs.map fun p => Expr.Name p.1 p.2).length == 2 || (xs.map fun p => Expr.Name p.1 p.2).length == 3) || vs.length != (xs.map fun p => Expr.Name p.1 p.2).length || env.blockKind != .function) = false := by
    rw [hb, List.length_map, hv]
    rcases hl with e | e <;> rw [e] <;> rfl
  have hcnt : ((xs.map (·.1)).length != (xs.map fun p => Expr.Name p.1 p.2).length || (xs.map (·.1)).eraseDups.length != (xs.map (·.1)).length) = false := by
    rw [List.length_map, List.length_map, h5]
    simp
  unfold swappedStores
  dsimp only
  refine Eq.trans (if_neg (fun z => ?_)) ?_
  · rw [hlen] at z; cases z
  refine Eq.trans (if_neg (fun z => ?_)) ?_
  · have z : (vs.any fun | .Starred .. => true | _ => false) = true := z
    rw [hst] at z; cases z
  rw [hline]
  refine Eq.trans (if_neg (fun z => ?_)) ?_
  · have z : (((xs.map fun p => Expr.Name p.1 p.2).filterMap (fun
      | .Name id pos => if env.kindOf id == some .local && pos.line == (xs.head?.map (·.2.line)).getD 0 then some id else none
      | _ => none)).length != (xs.map fun p => Expr.Name p.1 p.2).length || ((xs.map fun p => Expr.Name p.1 p.2).filterMap (fun
      | .Name id pos => if env.kindOf id == some .local && pos.line == (xs.head?.map (·.2.line)).getD 0 then some id else none
      | _ => none)).eraseDups.length != ((xs.map fun p => Expr.Name p.1 p.2).filterMap (fun
      | .Name id pos => if env.kindOf id == some .local && pos.line == (xs.head?.map (·.2.line)).getD 0 then some id else none
      | _ => none)).length) = true := z
    rw [hnames, hcnt] at z; cases z
  refine Eq.trans (if_neg (fun z => ?_)) ?_
  · rw [h6] at z; cases z
  refine Eq.trans (if_neg (fun z => ?_)) ?_
  · rw [h7] at z; cases z
  exact congrArg (fun l => (pure (some l) : Sem (Option (List Str)))) hnames
theorem fm_len {α β : Type} (f : α → Option β) : ∀ (l : List α), (l.filterMap f).length ≤ l.length
  | [] => Nat.le_refl _
  | a :: r => by
    have := fm_len f r
    rw [List.filterMap_cons]
    split
    · simp only [List.length_cons]; omega
    · simp only [List.length_cons]; omega
theorem fm_lt {α β : Type} {f : α → Option β} : ∀ {l : List α} {a : α}, a ∈ l → f a = none → (l.filterMap f).length < l.length
  | b :: r, a, hm, hn => by
    have hle := fm_len f r
    rw [List.filterMap_cons]
    rcases List.mem_cons.mp hm with e | hm
    · subst e
      rw [hn]
      simp only [List.length_cons]
      omega
    · have := fm_lt hm hn
      split
      · simp only [List.length_cons]; omega
      · simp only [List.length_cons]; omega
def notLoc (E : CE) : Expr → Bool
  | .Name x _ => !locB E.sc x
  | _ => true
theorem not_loc {E : CE} {x : Str} (h : locB E.sc x = false) : (E.sc.names.lookup x == some NameKind.local) = false := by
  unfold locB at h
  split at h
  · cases h
  · rename_i hn
    exact beq_eq_false_iff_ne.mpr hn
theorem stores_none {E : CE} {env : Env} (hsc : env.scope = E.sc) {ts vs : List Expr} {k k2 : Nat} {tp p2 : Pos} (hst : vs.all noStar = true) (h : ts.any (notLoc E) = true) : swappedStores [.Tuple ts k tp] (.Tuple vs k2 p2) env = pure none := by
  have hst' : (vs.any fun | .Starred .. => true | _ => false) = false := noStar_any hst
  obtain ⟨t0, ht0, hn0⟩ := List.any_eq_true.mp h
  unfold swappedStores
  dsimp only
  by_cases c1 : (!(ts.length == 2 || ts.length == 3) || vs.length != ts.length || env.blockKind != .function) = true
  · exact if_pos c1
  refine Eq.trans (if_neg c1) ?_
  refine Eq.trans (if_neg (fun z => ?_)) ?_
  · have z : (vs.any fun | .Starred .. => true | _ => false) = true := z
    rw [hst'] at z; cases z
  refine if_pos ?_
  have key : ∀ (ln : Nat), (ts.filterMap (fun
      | Expr.Name id pos => if env.kindOf id == some .local && pos.line == ln then some id else none
      | _ => none)).length < ts.length := fun ln => by
    refine fm_lt ht0 ?_
    cases t0 with
    | Name x p =>
      have hl : locB E.sc x = false := by simpa [notLoc] using hn0
      have := not_loc hl
      show (if env.kindOf x == some .local && p.line == ln then some x else none) = none
      unfold Env.kindOf
      rw [hsc, this]
      rfl
    | _ => rfl
  have := key ((ts.head?.map (·.pos.line)).getD 0)
  refine Bool.or_eq_true_iff.mpr (.inl ?_)
  exact bne_iff_ne.mpr (Nat.ne_of_lt this)
end Lo
namespace Lo
open PySem PySem.Spec PyProof.Rows L2
def eFuel : Nat := 60
def swapB (E : CE) (x : Str) (p lp : Pos) (scope : Scope) : Bool :=
  (match E.sc.kind with | .function => true | _ => false) && locB E.sc x && p.line == lp.line && !(scope.names.any fun (n, k) => n == x && (k == .local || k == .cell))
def flagOf (E : CE) : Expr → Bool
  | .Name x _ => E.lvn.contains x
  | _ => false
def cLf (o : Orc) (E : CE) : List Bool → List Expr → AcL
  | _, [] => alNil
  | [], a :: r => alCons (cE o eFuel E false a) (cLf o E [] r)
  | f :: fs, a :: r => alCons (cE o eFuel E f a) (cLf o E fs r)
def cTup (o : Orc) (E : CE) (ts : List Expr) (k : Nat) (tp : Pos) (vs : List Expr) : Sc := if vs.all noStar = true ∧ ts.any (notLoc E) = true then match cTg E eFuel (.Tuple ts k tp) with
    | some t' => scSet t' (acN tupP (cLf o E (ts.map (flagOf E)) vs))
    | none => match ts with
      | [.Attribute a f _, .Attribute b g _] => scAtt2 (atab E.st o f) f (cE o eFuel E false a) (atab E.st o g) g (cE o eFuel E false b) (acN tupP (cLf o E [E.lvn.contains f, E.lvn.contains g] vs))
      | _ => scNo
  else scNo
def nosB (E : CE) (x : Str) (scope : Scope) : Bool := !locB E.sc x || scope.names.any fun (n, k) => n == x && (k == .local || k == .cell)
def cDc (o : Orc) (E : CE) (i : Nat) (lv : Bool) (kx vx tg it : Expr) (ifs : List Expr) (scope : Scope) : Sc :=
  let own := ownN E.N scope
  if blkC E.N E.sc scope own = true then match cTg (blk E scope) eFuel tg with
    | some t => if slOk t (own.map (·.2)) = true then scSet (.nm i) (acDc lv (cI o eFuel E tg it) t (cIf o eFuel (blk E scope) ifs) (cE o eFuel (blk E scope) false kx) (cE o eFuel (blk E scope) false vx) (own.map (·.2))) else scNo
    | none => scNo
  else scNo
def cAsg (o : Orc) (E : CE) (t v : Expr) (pos : Pos) : Sc := match t with
  | .Name x p => match v with
    | .ListComp elt gs scope lp => match gs with
      | [⟨tg, it, ifs, a⟩] => if a = 0 ∧ notSet it = true ∧ swapB E x p lp scope = true then match ixB E.N x with
          | some i => scSet (.nm i) (cLc o eFuel E (E.lvn.contains x) elt tg it ifs scope)
          | none => scNo
        else if a = 0 ∧ notSet it = true ∧ nosB E x scope = true then match cTg E eFuel (.Name x p) with
          | some t' => scSet t' (cLc o eFuel E (E.lvn.contains x) elt tg it ifs scope)
          | none => scNo
        else scNo
      | _ => scNo
    | .DictComp kx vx gs scope lp => match gs with
      | [⟨tg, it, ifs, a⟩] => if a = 0 ∧ notSet it = true ∧ swapB E x p lp scope = true then match ixB E.N x with
          | some i => cDc o E i (E.lvn.contains x) kx vx tg it ifs scope
          | none => scNo
        else scNo
      | _ => scNo
    | v => if notComp v = true then match cTg E eFuel (.Name x p) with
        | some t' => scSet t' (cE o eFuel E (E.lvn.contains x) v)
        | none => scNo
      else scNo
  | .Tuple ts k tp => match v with
    | .Tuple vs k2 p2 => match ts, vs with
      | [.Name x px, .Name y py], [a, b] => if parB E [(x, px), (y, py)] [a, b] = true then match ixB E.N x, ixB E.N y with
          | some i, some j => if i ≠ j then scPar [.nm i, .nm j] (alCons (cE o eFuel E (E.lvn.contains x) a) (alCons (cE o eFuel E (E.lvn.contains y) b) alNil)) else scNo
          | _, _ => scNo
        else cTup o E ts k tp vs
      | [.Name x px, .Name y py, .Name z pz], [a, b, c] => if parB E [(x, px), (y, py), (z, pz)] [a, b, c] = true then match ixB E.N x, ixB E.N y, ixB E.N z with
          | some i, some j, some l => if i ≠ j ∧ i ≠ l ∧ j ≠ l then scPar [.nm i, .nm j, .nm l] (alCons (cE o eFuel E (E.lvn.contains x) a) (alCons (cE o eFuel E (E.lvn.contains y) b) (alCons (cE o eFuel E (E.lvn.contains z) c) alNil))) else scNo
          | _, _, _ => scNo
        else cTup o E ts k tp vs
      | _, _ => cTup o E ts k tp vs
    | v => if notTup v = true then match cTg E eFuel (.Tuple ts k tp) with
        | some t' => scSet t' (cE o eFuel E false v)
        | none => scNo
      else scNo
  | .Subscript a i p => if noSlice i = true then scItem (cE o eFuel E false a) (cE o eFuel E false i) (cE o eFuel E false v) else scNo
  | .Attribute a f p => scAttr (atab E.st o f) f (cE o eFuel E false a) (cE o eFuel E false v)
  | _ => scNo
def cRz (o : Orc) (E : CE) : Option Expr → Sc
  | some (.Call (.Name x _) args kws _) => match kws with
    | [] => if nameOk x = true ∧ glB E.sc x = true then match E.st.exs.lookup x with
      | some xi => match xi.ini, args with
        | none, [.Constant (.str _) _ _] => scRz xi.c
        | some ns, a :: es => if noStar a = true ∧ es.all noStar = true then scRzI xi.c ns (cL o eFuel E (a :: es)) else scNo
        | _, _ => scNo
      | none => scNo
      else scNo
    | _ => scNo
  | _ => scNo
mutual
def cS (o : Orc) : Nat → CE → Stmt → Sc
  | 0, _, _ => scNo
  | n + 1, E, st => match st with
    | .Pass _ => scNx
    | .Break _ => scBk
    | .Continue _ => scCt
    | .Expr e p => match e with
      | .Constant c _ _ => match c with
        | .str _ => scNx
        | _ => scNo
      | e => if notComp e = true then scExpr (cE o eFuel E false e) else scNo
    | .Return v _ => match v with
      | some e => scRet (cE o eFuel E false e)
      | none => scRetN
    | .If c a b _ => scIf (cT o eFuel E c) (cSs o n E a) (cSs o n E b)
    | .While c b els _ => match els with
      | [] => scWhile (cT o eFuel E c) (cSs o n E b)
      | _ => scNo
    | .For tg it b els _ => match els with
      | [] => if notSet it = true then match cTg E eFuel tg with
          | some t => scFor (cI o eFuel E tg it) t (cSs o n E b)
          | none => scNo
        else scNo
      | _ => scNo
    | .Assign ts v pos => match ts with
      | [t] => cAsg o E t v pos
      | _ => scNo
    | .AugAssign t op v _ => match ipP op with
      | some f => match t with
        | .Name x _ => if stB E.sc E.fb x = true then match ixB E.N x with
            | some i => scAugN i f (cE o eFuel E false v)
            | none => scNo
          else scNo
        | .Attribute a fl _ => scAugA (atab E.st o fl) fl f (cE o eFuel E false a) (cE o eFuel E false v)
        | _ => scNo
      | none => scNo
    | .Raise e c _ => match c with
      | none => cRz o E e
      | some _ => scNo
    | .Try b hds els fin _ => match els, fin, hds with
      | [], [], h₀ :: hs => if E.top = true then match cHd E.st E.N E.sc (h₀ :: hs) with
          | some ks => scTry (subT E.st) (cSs o n { E with lam := false } b) ks
          | none => scNo
        else scNo
      | _, _, _ => scNo
    | _ => scNo
def cSs (o : Orc) : Nat → CE → List Stmt → Sc
  | 0, _, _ => scNo
  | n + 1, E, sts => match sts with
    | [] => scNx
    | st :: r => scSeq (cS o n E st) (cSs o n E r)
end
section
variable {X : Cx} {G : GI} {o : Orc} {W : WX} {E : CE} {n : Nat}
theorem pss_no {sts : List Stmt} : PSs X sts (rdS G W scNo) := ⟨fun _ _ _ _ _ _ ⟨_, _, _, _, _, _, _, h⟩ => h.elim⟩
theorem sole_of {e t : Expr} {line : Nat} {env : Env} (h : notComp e = true) : swapsWithSole [t] e line env = pure false := swaps_of (t := some t) h
theorem sole_of2 {e t : Expr} {line : Nat} {env : Env} (h : notName t = true) : swapsWithSole [t] e line env = pure false := swaps_of2 h
theorem swap_ok (hc : COk E X G o W) {x : Str} {p lp : Pos} {scope : Scope} {elt : Expr} {gs : List Comprehension} {line : Nat} (h : swapB E x p lp scope = true) : swapsWith (.ListComp elt gs scope lp) (some (.Name x p)) line X.env = pure true := by
  simp only [swapB, Bool.and_eq_true] at h
  obtain ⟨⟨⟨h1, h2⟩, h3⟩, h4⟩ := h
  have hk : E.sc.kind = .function := by
    cases e : E.sc.kind <;> first | rfl | (rw [e] at h1; cases h1)
  have hb : (X.env.blockKind == .function) = true := by
    unfold Env.blockKind
    rw [hc.sc, hk]
    rfl
  have l1 : X.env.kindOf x = some .local := by unfold Env.kindOf; rw [hc.sc]; exact loc_of h2
  show (pure (X.env.blockKind == .function && X.env.kindOf x == some .local && p.line == lp.line && !(scope.names.any fun (n, k) => n == x && (k == .local || k == .cell))) : Sem Bool) = _
  rw [hb, l1, h3, h4]
  rfl
theorem swap_okD (hc : COk E X G o W) {x : Str} {p lp : Pos} {scope : Scope} {kx vx : Expr} {gs : List Comprehension} {line : Nat} (h : swapB E x p lp scope = true) : swapsWith (.DictComp kx vx gs scope lp) (some (.Name x p)) line X.env = pure true := by
  simp only [swapB, Bool.and_eq_true] at h
  obtain ⟨⟨⟨h1, h2⟩, h3⟩, h4⟩ := h
  have hk : E.sc.kind = .function := by
    cases e : E.sc.kind <;> first | rfl | (rw [e] at h1; cases h1)
  have hb : (X.env.blockKind == .function) = true := by
    unfold Env.blockKind
    rw [hc.sc, hk]
    rfl
  have l1 : X.env.kindOf x = some .local := by unfold Env.kindOf; rw [hc.sc]; exact loc_of h2
  show (pure (X.env.blockKind == .function && X.env.kindOf x == some .local && p.line == lp.line && !(scope.names.any fun (n, k) => n == x && (k == .local || k == .cell))) : Sem Bool) = _
  rw [hb, l1, h3, h4]
  rfl
theorem swap_no (hc : COk E X G o W) {x : Str} {p lp : Pos} {scope : Scope} {elt : Expr} {gs : List Comprehension} {line : Nat} (h : nosB E x scope = true) : swapsWith (.ListComp elt gs scope lp) (some (.Name x p)) line X.env = pure false := by
  show (pure (X.env.blockKind == .function && X.env.kindOf x == some .local && p.line == lp.line && !(scope.names.any fun (n, k) => n == x && (k == .local || k == .cell))) : Sem Bool) = _
  simp only [nosB, Bool.or_eq_true, Bool.not_eq_true'] at h
  rcases h with h | h
  · have l1 : (X.env.kindOf x == some .local) = false := by unfold Env.kindOf; rw [hc.sc]; exact not_loc h
    rw [l1]
    simp
  · rw [h]
    simp
theorem snd_lf (hc : COk E X G o W) : ∀ (fs : List Bool) (vs : List Expr), vs.all noStar = true → PA X vs (rdA G W (cLf o E fs vs))
  | _, [], _ => pa_nilD
  | [], a :: r, h => by
    simp only [List.all_cons, Bool.and_eq_true] at h
    exact pa_consD ((snd G o eFuel).e E X W hc _ a) (snd_lf hc [] r h.2) (star_cons h.1)
  | f :: fs, a :: r, h => by
    simp only [List.all_cons, Bool.and_eq_true] at h
    exact pa_consD ((snd G o eFuel).e E X W hc _ a) (snd_lf hc fs r h.2) (star_cons h.1)
theorem snd_tup (hc : COk E X G o W) (ts : List Expr) (k : Nat) (tp : Pos) (vs : List Expr) (k2 : Nat) (p2 pos : Pos) : PS X (.Assign [.Tuple ts k tp] (.Tuple vs k2 p2) pos) (rdS G W (cTup o E ts k tp vs)) := by
  unfold cTup
  split
  · rename_i hh
    split
    · rename_i t' ht
      exact ps_asgD (pe_tupD (snd_lf hc _ vs hh.1)) (cTg_ok eFuel E X hc _ _ ht) (sole_of rfl) (stores_none hc.sc hh.1 hh.2) (each_one rfl)
    · split
      · exact ps_att2 hc.K hc.calm (hc.st.ats _) (hc.st.ats _) ((snd G o eFuel).e E X W hc _ _) ((snd G o eFuel).e E X W hc _ _) (pe_tupD (snd_lf hc _ vs hh.1)) (sole_of rfl) (stores_none hc.sc hh.1 hh.2)
      · exact ps_no
  · exact ps_no
theorem snd_asg (hc : COk E X G o W) (t v : Expr) (pos : Pos) : PS X (.Assign [t] v pos) (rdS G W (cAsg o E t v pos)) := by
  have S := snd G o eFuel
  have hnd : X.N.Nodup := by rw [hc.N]; exact hc.nd
  have ix : ∀ {x i}, ixB E.N x = some i → X.N[i]? = some x := fun h => by rw [hc.N]; exact ix_of h
  have lo : ∀ {x}, locB E.sc x = true → X.env.scope.names.lookup x = some .local := fun h => by rw [hc.sc]; exact loc_of h
  cases t with
  | Name x p =>
    have els : notComp v = true → PS X (.Assign [.Name x p] v pos) (rdS G W (match cTg E eFuel (.Name x p) with | some t' => scSet t' (cE o eFuel E (E.lvn.contains x) v) | none => scNo)) := fun hn => by
      split
      · rename_i t' ht
        exact ps_asgD (S.e E X W hc _ v) (cTg_ok eFuel E X hc _ _ ht) (sole_of hn) (stores_of rfl) (each_one rfl)
      · exact ps_no
    cases v with
    | ListComp elt gs scope lp =>
      simp only [cAsg]
      split
      · split
        · rename_i tg it ifs a hh
          obtain ⟨h1, h2, h3⟩ := hh
          subst h1
          split
          · rename_i i hi
            have hl : locB E.sc x = true := by
              simp only [swapB, Bool.and_eq_true] at h3
              exact h3.1.1.2
            show PS X _ (rdS G W (scSet (.nm i) (cLc o (59 + 1) E (E.lvn.contains x) elt tg it ifs scope)))
            have S' := snd G o 59
            simp only [cLc]
            split
            · rename_i hb
              split
              · rename_i t ht
                split
                · rename_i hsl
                  refine ps_setLcD (E.lvn.contains x) hc.calm hnd (ix hi) (lo hl) (swap_ok hc h3) (S'.i E X W hc tg it) (blkOk_by (by rw [hc.N, hc.sc]; exact hb)) (slOk_of hsl) (fun s H C cl fp => ?_) (fun s H C cl fp => ?_) (fun s H C cl fp => ?_) (fold_of h2)
                  · exact cTgX_ok 59 (hc.blk s H scope C cl fp) ht
                  · exact S'.f _ _ _ (hc.blk s H scope C cl fp) ifs
                  · exact S'.e _ _ _ (hc.blk s H scope C cl fp) false elt
                · exact ⟨fun _ _ _ _ _ _ ⟨_, _, _, _, _, _, _, h⟩ => h.elim⟩
              · exact ⟨fun _ _ _ _ _ _ ⟨_, _, _, _, _, _, _, h⟩ => h.elim⟩
            · exact ⟨fun _ _ _ _ _ _ ⟨_, _, _, _, _, _, _, h⟩ => h.elim⟩
          · exact ps_no
        · split
          · rename_i tg it ifs a _ hh
            obtain ⟨h1, h2, h3⟩ := hh
            subst h1
            split
            · rename_i t' ht
              exact ps_asgD (S.c E X W hc _ elt tg it ifs scope lp h2) (cTg_ok eFuel E X hc _ _ ht) (swap_no (line := pos.line) hc h3) (stores_of rfl) (each_one rfl)
            · exact ps_no
          · exact ps_no
      · exact ps_no
    | SetComp _ _ _ _ => exact ps_no
    | DictComp kx vx gs scope lp =>
      simp only [cAsg]
      split
      · split
        · rename_i tg it ifs a hh
          obtain ⟨h1, h2, h3⟩ := hh
          subst h1
          split
          · rename_i i hi
            have hl : locB E.sc x = true := by
              simp only [swapB, Bool.and_eq_true] at h3
              exact h3.1.1.2
            unfold cDc
            dsimp only
            split
            · rename_i hb
              split
              · rename_i t ht
                split
                · rename_i hsl
                  refine ps_setDcD (E.lvn.contains x) hc.calm hnd (ix hi) (lo hl) (swap_okD hc h3) (S.i E X W hc tg it) (blkOk_by (by rw [hc.N, hc.sc]; exact hb)) (slOk_of hsl) (fun s H C cl fp => ?_) (fun s H C cl fp => ?_) (fun s H C cl fp => ?_) (fun s H C cl fp => ?_) (fold_of h2)
                  · exact cTgX_ok eFuel (hc.blk s H scope C cl fp) ht
                  · exact S.f _ _ _ (hc.blk s H scope C cl fp) ifs
                  · exact S.e _ _ _ (hc.blk s H scope C cl fp) false kx
                  · exact S.e _ _ _ (hc.blk s H scope C cl fp) false vx
                · exact ps_no
              · exact ps_no
            · exact ps_no
          · exact ps_no
        · exact ps_no
      · exact ps_no
    | _ => exact els rfl
  | Tuple ts k tp =>
    have els : notTup v = true → PS X (.Assign [.Tuple ts k tp] v pos) (rdS G W (match cTg E eFuel (.Tuple ts k tp) with | some t' => scSet t' (cE o eFuel E false v) | none => scNo)) := fun hn => by
      split
      · rename_i t' ht
        exact ps_asgD (S.e E X W hc _ v) (cTg_ok eFuel E X hc _ _ ht) (sole_of2 rfl) (stores_of (by rw [hn]; rfl)) (each_one rfl)
      · exact ps_no
    by_cases hv : notTup v = true
    · have : cAsg o E (.Tuple ts k tp) v pos = (match cTg E eFuel (.Tuple ts k tp) with | some t' => scSet t' (cE o eFuel E false v) | none => scNo) := by
        cases v <;> first | (cases hv; done) | rfl
      rw [this]
      exact els hv
    · cases v with
      | Tuple vs k2 p2 =>
        simp only [cAsg]
        split
        · rename_i x px y py a b
          split
          case isFalse => exact snd_tup hc _ _ _ _ _ _ _
          rename_i hp
          have hp0 := hp
          simp only [parB, Bool.and_eq_true, List.all_cons, List.all_nil, Bool.and_true] at hp
          obtain ⟨⟨⟨⟨⟨⟨_, h2⟩, h3⟩, _⟩, _⟩, _⟩, _⟩ := hp
          split
          · rename_i i j hi hj
            split
            · rename_i hij
              exact ps_parD hc.calm hnd (ix hi) (ix hj) hij (lo h3.1) (lo h3.2) (pa_consD (S.e E X W hc _ a) (pa_consD (S.e E X W hc _ b) pa_nilD (star_cons h2.2)) (star_cons h2.1)) (par_stores (xs := [(x, px), (y, py)]) hc.sc (.inl rfl) rfl hp0) (sole_of rfl)
            · exact ps_no
          · exact ps_no
        · rename_i x px y py z pz a b c
          split
          case isFalse => exact snd_tup hc _ _ _ _ _ _ _
          rename_i hp
          have hp0 := hp
          simp only [parB, Bool.and_eq_true, List.all_cons, List.all_nil, Bool.and_true] at hp
          obtain ⟨⟨⟨⟨⟨⟨_, h2⟩, h3⟩, _⟩, _⟩, _⟩, _⟩ := hp
          split
          · rename_i i j l hi hj hl
            split
            · rename_i hij
              exact ps_par3D hc.calm hnd (ix hi) (ix hj) (ix hl) hij.1 hij.2.1 hij.2.2 (lo h3.1) (lo h3.2.1) (lo h3.2.2) (pa_consD (S.e E X W hc _ a) (pa_consD (S.e E X W hc _ b) (pa_consD (S.e E X W hc _ c) pa_nilD (star_cons h2.2.2)) (star_cons h2.2.1)) (star_cons h2.1)) (par_stores (xs := [(x, px), (y, py), (z, pz)]) hc.sc (.inr rfl) rfl hp0) (sole_of rfl)
            · exact ps_no
          · exact ps_no
        · exact snd_tup hc _ _ _ _ _ _ _
      | _ => exact absurd rfl hv
  | Subscript a i p =>
    simp only [cAsg]
    split
    · rename_i hs
      have := hc.un
      exact ps_itemD (by omega) (S.e E X W hc _ a) (S.e E X W hc _ i) (S.e E X W hc _ v) (sole_of2 rfl) (stores_of rfl) (asg_sub hs)
    · exact ps_no
  | Attribute a f p => exact ps_attrD hc.K (hc.st.ats f) (S.e E X W hc _ a) (S.e E X W hc _ v) (swaps_of2 rfl)
  | _ => exact ps_no
theorem StOk.tr {st : ST} (h : StOk X G st o) (pn : List (Addr × Obj)) (xe : Value → Shared → Prop) : StOk (X.tr pn xe) G st o :=
  ⟨h.gc, h.fns, h.cls, h.mets, fun f c k e => match k, h.ats f c k e with
    | _, .slot a b => .slot a b
    | _, .fld a b => .fld a b
    | _, .prop a b c d e f g => .prop a b c d e f g, ⟨h.own.sc, h.own.si, h.own.len, h.own.eq⟩, h.blt, h.wd, fun x xi e => let z := h.exs x xi e; ⟨z.mg, z.rs, z.kp, z.no, z.ini⟩, h.sub, h.xf, h.told⟩
theorem COk.tr (h : COk E X G o W) (pn : List (Addr × Obj)) (xe : Value → Shared → Prop) {W' : WX} (tk : Takes (X.tr pn xe) W') : COk { E with lam := false } (X.tr pn xe) G o W' :=
  ⟨h.K, h.calm, h.N, h.nd, h.sc, h.fb, h.st.tr pn xe, tk, h.un, h.xn, h.fr, (fun z => by cases z)⟩
theorem snd_rz (hc : COk E X G o W) (e : Option Expr) (pos : Pos) : PS X (.Raise e none pos) (rdS G W (cRz o E e)) := by
  unfold cRz
  split
  · rename_i x p args kws p3
    split
    · split
      · rename_i hh
        split
        · rename_i xi hxi
          have z := hc.st.exs x xi hxi
          split
          · rename_i m j p2 hi
            exact ps_rz hc.calm hc.tk (z.no hi) z.mg z.kp z.rs (gl_ok hc hh.2) (nameOk1 hh.1)
          · rename_i ns a es hi
            split
            · rename_i hs
              obtain ⟨T, fI, fd, ps, k, h1, h2, h3, h4, h5⟩ := z.ini ns hi
              exact ps_rzI hc.calm hc.tk T h1 h2 h3 h4 h5 (gl_ok hc hh.2) z.mg (nameOk1 hh.1) ((snd G o eFuel).l E X W hc (a :: es)) (star_cons hs.1) (star_any hs.2)
            · exact ps_no
          · exact ps_no
        · exact ps_no
      · exact ps_no
    · exact ps_no
  · exact ps_no
structure SndS (G : GI) (o : Orc) (n : Nat) : Prop where
  s : ∀ E X W, COk E X G o W → PassesOwn (model X.prog X.w) X.A X.env X.xe → ∀ st, PS X st (rdS G W (cS o n E st))
  ss : ∀ E X W, COk E X G o W → PassesOwn (model X.prog X.w) X.A X.env X.xe → ∀ sts, PSs X sts (rdS G W (cSs o n E sts))
theorem snd_s (ih : SndS G o n) (hc : COk E X G o W) (hp : PassesOwn (model X.prog X.w) X.A X.env X.xe) (st : Stmt) : PS X st (rdS G W (cS o (n + 1) E st)) := by
  have S := snd G o eFuel
  cases st with
  | Pass p => exact ps_passD
  | Break p => exact ps_breakD
  | Continue p => exact ps_contD
  | Expr e p =>
    have els : notComp e = true → PS X (.Expr e p) (rdS G W (scExpr (cE o eFuel E false e))) := fun h => ps_exprD (S.e E X W hc _ e) (swaps_of h)
    cases e with
    | Constant c k q =>
      cases c with
      | str x => exact ps_docD
      | _ => exact ps_no
    | ListComp _ _ _ _ => exact ps_no
    | SetComp _ _ _ _ => exact ps_no
    | DictComp _ _ _ _ _ => exact ps_no
    | _ => exact els rfl
  | Return v p =>
    cases v with
    | none => exact ps_retND
    | some e => exact ps_retD (S.e E X W hc _ e)
  | If c a b p => exact ps_ifD (S.t E X W hc c) (ih.ss E X W hc hp a) (ih.ss E X W hc hp b)
  | While c b els p =>
    cases els with
    | nil => exact ps_whileD hp (S.t E X W hc c) (ih.ss E X W hc hp b)
    | cons _ _ => exact ps_no
  | For tg it b els p =>
    cases els with
    | cons _ _ => exact ps_no
    | nil =>
      simp only [cS]
      split
      · rename_i hs
        split
        · rename_i t ht
          exact ps_forD hp hc.calm (S.i E X W hc tg it) (cTgX_ok eFuel hc ht) (ih.ss E X W hc hp b) (fold_of hs)
        · exact ps_no
      · exact ps_no
  | Assign ts v p =>
    match ts with
    | [] => exact ps_no
    | [t] => exact snd_asg hc t v p
    | _ :: _ :: _ => exact ps_no
  | AugAssign t op v p =>
    simp only [cS]
    split
    · rename_i f hf
      cases t with
      | Name x q =>
        simp only
        split
        · rename_i hs
          obtain ⟨h1, h2⟩ := st_of hs
          split
          · rename_i i hi
            exact ps_augND (by rw [hc.N]; exact hc.nd) (by rw [hc.N]; exact ix_of hi) (by rw [hc.sc]; exact h1) (S.e E X W hc _ v) hf (by rw [hc.fb, hc.sc]; exact h2)
          · exact ps_no
        · exact ps_no
      | Attribute a fl q => exact ps_augAD hc.K (hc.st.ats fl) (S.e E X W hc _ a) (S.e E X W hc _ v) hf
      | _ => exact ps_no
    · exact ps_no
  | Raise e c p =>
    cases c with
    | none => exact snd_rz hc e p
    | some _ => exact ps_no
  | Try b hds els fin p =>
    simp only [cS]
    split
    · rename_i h₀ hs
      split
      · rename_i ht
        split
        · rename_i ks hks
          obtain ⟨f1, f2⟩ := hc.fr ht
          exact ps_tryD hc.xn (by rw [hc.N]; exact hc.nd) f1 f2 hc.tk hc.st.sub (fun W' pn xe tk hp' => ih.ss { E with lam := false } (X.tr pn xe) W' (hc.tr pn xe tk) hp' b) (hds_of hc.K hc.N hc.sc hc.un (fun x xi e => (hc.st.exs x xi e).mg) hc.st.xf _ _ hks)
        · exact ps_no
      · exact ps_no
    · exact ps_no
  | _ => exact ps_no
theorem sndS (G : GI) (o : Orc) : ∀ n, SndS G o n
  | 0 => ⟨fun _ _ _ _ _ _ => ps_no, fun _ _ _ _ _ _ => pss_no⟩
  | n + 1 => by
    have ih := sndS G o n
    refine ⟨fun E X W hc hp st => snd_s ih hc hp st, fun E X W hc hp sts => ?_⟩
    cases sts with
    | nil => exact pss_nilD
    | cons st r => exact pss_consD (ih.s E X W hc hp st) (ih.ss E X W hc hp r)
end
end Lo
namespace Lo
open PySem PySem.Spec PyProof.Rows L2 ClX
theorem xiBody_ps {pe : Str} {ps : List Str} {body : List Stmt} (h : xiBody pe ps body = true) : ∀ y ∈ ps, (y == ("__debug__" : Str)) = false ∧ (y == ("__classdict__" : Str)) = false := by
  unfold xiBody at h
  split at h
  · split at h
    · simp only [Bool.and_eq_true, List.all_eq_true, Bool.not_eq_true'] at h
      obtain ⟨⟨⟨⟨_, h⟩, _⟩, _⟩, _⟩ := h
      exact h
    · cases h
  · cases h
theorem xi_fn {P : Program} {w : World} {K : PySem.W.Frag} {mg : Str → Option Value} {base : Heap} {f C CP : Addr} {mc : Value} {name qual pe self : Str} {params : Arguments} {body : List Stmt} {scope : Scope} {dV kV doc pm cdv ct oc : Value} {an od : Option Addr} {osl : Array (Option Value)} {N ps ns : List Str}
    (lk : K.lookup f = some ⟨oc, od, .func (PySem.W.fnOf name qual params body scope dV kV doc pm an cdv ct), osl⟩) (hcd : PySem.W.codeIn K cdv qual = true) (S : FnScope N ps scope) (hps : ps = self :: ns) (hb : xiBody pe ps body = true) (hz : ns.length ≤ 100)
    (T : OexC K C) (TP : PeK K CP mc) (hgl : scope.names.lookup pe = some .globalImplicit) (hmg : mg pe = some (.ref CP)) (hno : ∀ f ∈ ns, PySem.W.findIn K (.ref C) f = some none) :
    FnOk P w K mg base (CX P w) 1 f (PySem.W.fnOf name qual params body scope dV kV doc pm an cdv ct) ps (spXi K C ns) := by
  refine fn_of (k := 0) lk hcd S (fun vs H Q E z => ?_) fun A outer s H vs Q E hr z => ?_
  · obtain ⟨a, ws, rfl, hl, _⟩ := z
    rw [hps]
    simp [hl]
  · obtain ⟨a, ws, rfl, hl, hne, hok, ha, hq⟩ := z
    have hpre : N.take ps.length = ps := S.pre
    obtain ⟨t, ht, h2⟩ := xi_body (X := cxOf (CX P w) P w K mg base N qual scope f cdv A outer s H E) (ps := ps) T TP hgl hmg hps (fun i y e => by
      have hy := xiBody_ps hb y (List.mem_of_getElem? e)
      have hi : i < ps.length := (List.getElem?_eq_some_iff.mp e).1
      refine ⟨?_, ?_, hy.1, hy.2⟩
      · show N[i]? = some y
        rw [← hpre, List.getElem?_take, if_pos hi] at e
        exact e
      · rcases S.par y (List.mem_of_getElem? e) with q | q
        · exact .inl q
        · exact .inr (.inl q)) hno hb hz
    refine ⟨t, ht, h2 _ _ H a ws (start_at rfl) (fun j v e => start_at ?_) hl hne hok ha fun d nd ne => hq d nd ne⟩
    rw [Nat.add_comm]
    simpa using e
def oexB (K : PySem.W.Frag) (C : Addr) : Bool := (match K.lookup C with
  | some ⟨.type "type", _, .cls cd, sl⟩ => (match cd.mro, sl.toList with
    | .ref C' :: bm, [_, _, _, _, some (.builtin n), _] => C' == C && n == "ValueError.__new__" && !cd.hasDel && cd.hasDict && PySem.HandSPX.refsVE bm
    | _, _ => false)
  | _ => false) && He.eqO (PySem.W.findIn K (.ref C) "__setattr__") (some (some (.builtin "object.__setattr__"))) && decide (PySem.W.subIn K (.ref C) (.type "BaseException") = some true) && decide (PySem.W.typeIn K (.ref C) = some (.type "type")) && PySem.W.keepIn K (.ref C)
theorem oex_of {K : PySem.W.Frag} {C : Addr} (h : oexB K C = true) : OexC K C := by
  simp only [oexB, Bool.and_eq_true, decide_eq_true_eq] at h
  obtain ⟨⟨⟨⟨h1, h2⟩, h3⟩, h4⟩, h5⟩ := h
  refine ⟨?_, He.eqO_ok h2, h3, h4, h5⟩
  split at h1
  · rename_i dd cd sl ho
    split at h1
    · rename_i C' bm k0 k1 k2 k3 n k5 hm hs
      simp only [Bool.and_eq_true, beq_iff_eq, Bool.not_eq_true'] at h1
      obtain ⟨⟨⟨⟨rfl, rfl⟩, hdel⟩, hdict⟩, hr⟩ := h1
      obtain ⟨nm, bs, mro, ns, qn, hd, sn, sub, ab, col, del⟩ := cd
      dsimp only at hm hdel hdict
      subst hm hdel hdict
      have hsl : sl = #[k0, k1, k2, k3, some (.builtin "ValueError.__new__"), k5] := by
        obtain ⟨l⟩ := sl
        simp only at hs
        rw [hs]
      subst hsl
      exact ⟨nm, qn, ns, bs, bm, sn, sub, ab, col, dd, k0, k1, k2, k3, k5, ho, hr⟩
    · cases h1
  · cases h1
def peB (K : PySem.W.Frag) (C : Addr) : Bool := PySem.W.readsIn K C (.type "type") && He.eqO (PySem.W.specialIn K (.ref C) "__getattribute__") (some (some (.builtin "type.__getattribute__"))) && (match PySem.W.findCls K (.ref C) (.type "type") "__init__" with
  | some (.val (.builtin i)) => i == "ValueError.__init__"
  | _ => false)
theorem pe_of {K : PySem.W.Frag} {C : Addr} (h : peB K C = true) : PeK K C (.type "type") := by
  simp only [peB, Bool.and_eq_true] at h
  obtain ⟨⟨h1, h2⟩, h3⟩ := h
  refine ⟨⟨h1, He.eqO_ok h2⟩, ?_⟩
  split at h3
  · rename_i i e
    rw [e, beq_iff_eq.mp h3]
  · cases h3
end Lo
namespace Lo
open PySem PySem.Spec PyProof.Rows L2
inductive Lc where
  | g (x : Str)
  | m (x m : Str)
  | p (x f : Str)
def Lc.ad (K : PySem.W.Frag) : Lc → Addr
  | .g x => He.ga K x
  | .m x n => He.ma K (He.ga K x) n
  | .p x f => match PySem.W.recIn K (He.ma K (He.ga K x) f) "property" with
    | some (.ref a :: _) => a
    | _ => 0
structure FB where
  lc : Lc
  name : Str
  qual : Str
  params : Arguments
  body : List Stmt
  scope : Scope
  N : List Str
  ps : List Str
  lvn : List Str
  lam : Bool
structure Txt where
  st : ST
  fbs : List FB
  clN : List Str
  xis : List (Str × Nat)
  pe : Str
def sFuel : Nat := 80
def FB.ce (t : ST) (b : FB) : CE := ⟨b.N, b.scope, fun _ => true, t, b.lvn, true, b.lam⟩
def outR : Out → Res D
  | .nx _ h => .ok .non h
  | .rt d h => .ok d h
  | .ex c fs _ h => .ex c fs h
  | _ => .no
def startD (N : List Str) (ds : List D) : Sl := ds.map some ++ List.replicate (N.length - ds.length) none
def runB (st : ST) (o : Orc) (b : FB) : FnD := fun ds h => outR (cSs o sFuel (b.ce st) b.body (startD b.N ds) h)
def fnD (t : Txt) : Nat → Orc
  | 0, _ => fun _ _ => .no
  | k + 1, i => match t.fbs[i]? with
    | some b => runB t.st (fnD t k) b
    | none => fun _ _ => .no
def codeL (K : PySem.W.Frag) (l : Lc) : Addr := match K.lookup (l.ad K) with
  | some ⟨_, _, .func fd, _⟩ => (match fd.code with
    | .ref c => c
    | _ => 0)
  | _ => 0
def tabL (K : PySem.W.Frag) (c : Addr) : Addr := match K.lookup c with
  | some ⟨_, _, .fields vs, _⟩ => (match (vs[11]? : Option Value) with
    | some (.ref P) => P
    | _ => 0)
  | _ => 0
def FB.tb (K : PySem.W.Frag) (b : FB) : Addr := tabL K (codeL K b.lc)
def FB.lq (b : FB) : Str := b.qual ++ ".<locals>." ++ "<lambda>"
def Txt.lams (t : Txt) : List FB := t.fbs.filter (·.lam)
def Txt.tabs (t : Txt) (K : PySem.W.Frag) : List (Addr × Str) := t.lams.map fun b => (b.tb K, b.lq)
def GIof (t : Txt) (K : PySem.W.Frag) (mg : Str → Option Value) : GI := ⟨K, mg, fun i => match t.fbs[i]? with | some b => b.lc.ad K | none => 0, fun c => He.ga K (t.clN.getD c Str.empty), none, t.tabs K⟩
def FB.val (d : FB) : He.FnW := some (d.name, d.qual, d.params, .stmts d.body, d.scope, mainGlobals, [], builtinsNs)
def fnWL (K : PySem.W.Frag) (p : Lc) : He.FnW := match K.lookup (p.ad K) with
  | some ⟨_, _, .func fd, _⟩ => some (fd.name, fd.qualname, fd.params, fd.body, fd.scope, fd.globals, fd.closure, fd.builtins)
  | _ => none
def FB.ok (K : PySem.W.Frag) (d : FB) : Bool := PySem.W.keepIn K (.ref (d.lc.ad K)) && (match K.lookup (d.lc.ad K) with
  | some ⟨_, _, .func fd, _⟩ => PySem.W.codeIn K fd.code d.qual && He.dflB K fd.defaults []
  | _ => false)
theorem FB.funD {K : PySem.W.Frag} {d : FB} (e : fnWL K d.lc = d.val) (c : d.ok K = true) : ∃ fd, FunD K d.name d.qual d.params d.body d.scope [] [] (d.lc.ad K) fd := by
  obtain ⟨kp, c2⟩ := He.ba c
  unfold fnWL at e
  cases q : K.lookup (d.lc.ad K) with
  | none =>
    rw [q] at c2
    cases c2
  | some o =>
    obtain ⟨oc, od, dt, osl⟩ := o
    rw [q] at c2 e
    cases dt with
    | func fd =>
      obtain ⟨n1, n2, n3, n4, n5, n6, n7, n8, n9, n10, n11, n12, n13, n14, n15⟩ := fd
      have e2 : (some (n1, n2, n3, n4, n5, n6, n7, n15) : He.FnW) = some (d.name, d.qual, d.params, .stmts d.body, d.scope, mainGlobals, [], builtinsNs) := e
      simp only [Option.some.injEq, Prod.mk.injEq] at e2
      obtain ⟨h1, h2, h3, h4, h5, h6, h7, h8⟩ := e2
      subst h1 h2 h3 h4 h5 h6 h7 h8
      have c3 : (PySem.W.codeIn K n13 d.qual && He.dflB K n8 []) = true := c2
      obtain ⟨k1, k2⟩ := He.ba c3
      exact ⟨_, ⟨oc, od, n8, n9, n10, n11, n12, n13, n14, osl, rfl, q, k1, He.dflB_ok k2, .inl rfl⟩, kp⟩
    | _ => cases c2
def gcB (t : Txt) (K : PySem.W.Frag) (x : Str) (d : D) : Bool := match PySem.W.nsIn K mainGlobals x with
  | some (some u) => match d, u with
    | .int i, .int j _ => decide (i = j)
    | .str a, .str b _ => decide (a = b)
    | .cl c, .ref a => decide (a = He.ga K (t.clN.getD c Str.empty))
    | _, _ => false
  | _ => false
def sclsB (K : PySem.W.Frag) (C : Addr) : Bool := PySem.W.plainGet K C Str.empty && PySem.W.isClsIn K C && PySem.W.plainOver K C && He.eqO (PySem.W.findIn K (.ref C) "__setattr__") (some (some (.builtin "object.__setattr__")))
def clsB (K : PySem.W.Frag) (C : Addr) : Bool := PySem.W.plainGet K C Str.empty && PySem.W.hasDictIn K C && PySem.W.plainOver K C && He.eqO (PySem.W.findIn K (.ref C) "__setattr__") (some (some (.builtin "object.__setattr__")))
def sisiB (K : PySem.W.Frag) (C : Addr) : Bool := He.eqO (PySem.W.findIn K (.ref C) "__class__") (some (some (.builtin "object.__class__"))) && He.eqO (PySem.W.specialIn K (.builtin "object.__class__") "__get__") (some (some (.builtin "getset_descriptor.__get__"))) &&
  decide (PySem.W.takesIn K (.builtin "object.__class__") = some true) && decide (PySem.W.mroIn K C (.type "object") = some true)
def slotB (K : PySem.W.Frag) (C : Addr) (f : Str) (i : Nat) : Bool := He.eqO (PySem.W.findIn K (.ref C) f) (some (some (.ref (He.ma K C f)))) && He.eqO (PySem.W.specialIn K (.ref (He.ma K C f)) "__get__") (some (some (.builtin "member_descriptor.__get__"))) &&
  decide (PySem.W.takesIn K (.ref (He.ma K C f)) = some true) && decide (PySem.W.typeIn K (.ref (He.ma K C f)) = some (.type "member_descriptor")) && decide (PySem.W.slotIn K (He.ma K C f) C = some i) && decide (i < 1000)
def propB (K : PySem.W.Frag) (x f : Str) : Bool := He.eqO (PySem.W.findIn K (.ref (He.ga K x)) f) (some (some (.ref (He.ma K (He.ga K x) f)))) && He.eqO (PySem.W.specialIn K (.ref (He.ma K (He.ga K x) f)) "__get__") (some (some (.builtin "property.__get__"))) &&
  decide (PySem.W.takesIn K (.ref (He.ma K (He.ga K x) f)) = some true) && (match PySem.W.recIn K (He.ma K (He.ga K x) f) "property" with
    | some (.ref _ :: _) => true
    | _ => false)
def methB (K : PySem.W.Frag) (x m : Str) : Bool := He.eqO (PySem.W.findIn K (.ref (He.ga K x)) m) (some (some (.ref (He.ma K (He.ga K x) m)))) && PySem.W.isFn K (.ref (He.ma K (He.ga K x) m)) && PySem.W.keepIn K (.ref (He.ma K (He.ga K x) m))
def isLc (b : Option FB) (ar : Nat) (f : Lc → Bool) : Bool := match b with
  | some b => f b.lc && decide (b.ps.length = ar)
  | none => false
def Lc.isG (x : Str) : Lc → Bool
  | .g y => decide (y = x)
  | _ => false
def Lc.isM (x m : Str) : Lc → Bool
  | .m y n => decide (y = x) && decide (n = m)
  | _ => false
def Lc.isP (x m : Str) : Lc → Bool
  | .p y n => decide (y = x) && decide (n = m)
  | _ => false
def Txt.cn (t : Txt) (c : Nat) : Str := t.clN.getD c Str.empty
def akB (t : Txt) (K : PySem.W.Frag) (f : Str) (c : Nat) : AkS → Bool
  | .slot i => sclsB K (He.ga K (t.cn c)) && slotB K (He.ga K (t.cn c)) f i
  | .fld => clsB K (He.ga K (t.cn c)) && He.eqO (PySem.W.findIn K (.ref (He.ga K (t.cn c))) f) (some none)
  | .prop i => sclsB K (He.ga K (t.cn c)) && propB K (t.cn c) f && isLc t.fbs[i]? 1 (Lc.isP (t.cn c) f)
def ownB' (t : Txt) (K : PySem.W.Frag) : Bool :=
  sclsB K (He.ga K (t.cn t.st.own.1)) && sisiB K (He.ga K (t.cn t.st.own.1)) &&
  (match t.st.own.2.1 with
    | some i => methB K (t.cn t.st.own.1) "__len__" && isLc t.fbs[i]? 1 (Lc.isM (t.cn t.st.own.1) "__len__")
    | none => true) &&
  (match t.st.own.2.2 with
    | some i => methB K (t.cn t.st.own.1) "__eq__" && He.eqO (PySem.W.findIn K (.ref (He.ga K (t.cn t.st.own.1))) "__ne__") (some (some (.builtin "object.__ne__"))) && isLc t.fbs[i]? 2 (Lc.isM (t.cn t.st.own.1) "__eq__")
    | none => true)
def wdvB (K : PySem.W.Frag) (a : Addr) (z : Str) (d : D) : Bool := match PySem.W.nsIn K a z with
  | some (some u) => match d, u with
    | .int i, .int j _ => decide (i = j)
    | .str a, .str b _ => decide (a = b)
    | _, _ => false
  | _ => false
def wdB (K : PySem.W.Frag) (x : Str) (l : List (Str × D)) : Bool := He.eqO (PySem.W.nsIn K mainGlobals x) (some (some (.ref (He.ga K x)))) && l.all fun q => wdvB K (He.ga K x) q.1 q.2
def exsB (t : Txt) (K : PySem.W.Frag) (x : Str) (xi : XcI) : Bool := He.eqO (PySem.W.nsIn K mainGlobals x) (some (some (.ref (He.ga K x)))) && decide (t.cn xi.c = x) && decide (PySem.W.subIn K (.ref (He.ga K x)) (.type "BaseException") = some true) && decide (PySem.W.typeIn K (.ref (He.ga K x)) = some (.type "type")) && PySem.W.keepIn K (.ref (He.ga K x)) && (match xi.ini with
  | none => PySem.W.excIn K (He.ga K x) PySem.HandSPX.veTail "ValueError.__new__"
  | some ns => oexB K (He.ga K x) && methB K x "__init__" && decide (PySem.W.typeIn K (.ref (He.ma K (He.ga K x) "__init__")) = some (.type "function")) && ns.all fun f => He.eqO (PySem.W.findIn K (.ref (He.ga K x)) f) (some none))
def subB (t : Txt) (K : PySem.W.Frag) : Bool := t.st.sub.all fun p => (t.st.sub.all fun q => decide (PySem.W.exmOne K (.ref (He.ga K (t.cn p.1))) (.ref (He.ga K (t.cn q.1))) = some (p.2.contains q.1))) && xfB K (He.ga K (t.cn p.1)) && t.st.xfs.all fun f => He.eqO (PySem.W.findIn K (.ref (He.ga K (t.cn p.1))) f) (some none)
def lamB (t : Txt) (K : PySem.W.Frag) : Bool := (t.lams.all fun b => PySem.W.codeHdIn K (codeL K b.lc) (b.tb K) && (match K.lookup (b.lc.ad K) with
  | some ⟨_, _, .func fd, _⟩ => (match fd.code with
    | .ref c => c == codeL K b.lc
    | _ => false)
  | _ => false)) && (t.tabs K).all fun p => (t.tabs K).all fun q => p.1 != q.1 || p.2 == q.2
def excB (t : Txt) (K : PySem.W.Frag) : Bool := (t.st.exs.all fun p => exsB t K p.1 p.2) && subB t K && lamB t K && (t.xis.isEmpty || (peB K (He.ga K t.pe) && He.eqO (PySem.W.nsIn K mainGlobals t.pe) (some (some (.ref (He.ga K t.pe))))))
def allOk (t : Txt) (K : PySem.W.Frag) : Bool :=
  excB t K &&
  (t.st.gc.all fun p => gcB t K p.1 p.2) &&
  (t.st.fns.all fun p => He.eqO (PySem.W.nsIn K mainGlobals p.1) (some (some (.ref (He.ga K p.1)))) && isLc t.fbs[p.2.1]? p.2.2 (Lc.isG p.1)) &&
  (t.st.cls.all fun p => He.eqO (PySem.W.nsIn K mainGlobals p.1) (some (some (.ref (He.ga K p.1)))) && decide (t.cn p.2.c = p.1) && PySem.W.makesIn K (He.ga K p.1) && methB K p.1 "__init__" && PySem.W.keepIn K (.ref (He.ga K p.1)) && isLc t.fbs[p.2.init]? (p.2.ar + 1) (Lc.isM p.1 "__init__")) &&
  (t.st.mets.all fun p => (if p.2.sl = true then sclsB K (He.ga K (t.cn p.2.c)) else clsB K (He.ga K (t.cn p.2.c))) && methB K (t.cn p.2.c) p.1 && isLc t.fbs[p.2.f]? (p.2.ar + 1) (Lc.isM (t.cn p.2.c) p.1)) &&
  (t.st.ats.all fun p => p.2.all fun q => akB t K p.1 q.1 q.2) &&
  ownB' t K &&
  (bltUsed.all fun x => t.st.glob.contains x || He.eqO (PySem.W.nsIn K mainGlobals x) (some none)) &&
  (t.st.wd.all fun p => wdB K p.1 p.2) &&
  (t.fbs.all fun b => b.ok K)
abbrev AlT : Type := Bool × List He.FnW × List (Option (List (Option (Str × Int))))
def obsT (t : Txt) (K : PySem.W.Frag) : AlT := (allOk t K, t.fbs.map (fun b => fnWL K b.lc), t.st.wd.map fun p => He.dicW K (He.ga K p.1))
def valT (t : Txt) (w : World) : AlT := (true, t.fbs.map FB.val, t.st.wd.map fun p => some (He.keysIn w.params (p.2.map (·.1))))
def SaysT (t : Txt) (w : World) (K : PySem.W.Frag) : Prop := obsT t K = valT t w
def asL (g : Addr → Option Obj) (n : Nat) : List Addr := cStatics :: He.asD g n
def tabE (t : Txt) (K : PySem.W.Frag) (g : Addr → Option Obj) : Bool := t.lams.all fun b => match g (b.tb K) with
  | some o => He.emptyTab o
  | none => false
def TabE (t : Txt) (K : PySem.W.Frag) (h : Heap) : Prop := ∀ b ∈ t.lams, K.lookup (b.tb K) = none ∧ h.get? (b.tb K) = some { cls := .none, data := .fields #[] }
abbrev AlU : Type := AlT × Bool
def obsTG (n : Nat) (t : Txt) (g : Addr → Option Obj) : AlU := (obsT t (He.frT g (asL g n)), tabE t (He.frT g (asL g n)) g)
def valU (t : Txt) (w : World) : AlU := (valT t w, true)
theorem tabE_of {n : Nat} {t : Txt} {h : Heap} (e : tabE t (He.frT h.get? (asL h.get? n)) h.get? = true) : TabE t (He.frT h.get? (asL h.get? n)) h := fun b hb => by
  have z := List.all_eq_true.mp e b hb
  cases q : h.get? (b.tb (He.frT h.get? (asL h.get? n))) with
  | none => rw [q] at z; cases z
  | some o =>
    rw [q] at z
    exact ⟨He.frT_none q z, by rw [He.emptyTab_eq z]⟩
def hookT (n : Nat) (t : Txt) : PySem.W.Hook where
  α := AlU
  obs := fun s => obsTG n t s.heap.get?
  val := fun w => valU t w
  says := fun w h => ∃ K : PySem.W.Frag, K.In h ∧ SaysT t w K ∧ TabE t K h
  of := fun _ _ e => ⟨_, He.frT_in, congrArg (fun z : AlU => z.1) e, tabE_of (congrArg (fun z : AlU => z.2) e)⟩
  keeps := fun _ _ _ ⟨K, hK, c, z⟩ k => ⟨K, PySem.W.Frag.In.keeps hK k, c, fun b hb => ⟨(z b hb).1, k _ _ (z b hb).2⟩⟩
theorem obsTG_eq {n : Nat} {t : Txt} {g : Addr → Option Obj} {s : Shared} (h : ∀ a, g a = s.heap.get? a) : obsTG n t g = (hookT n t).obs s := by
  have e : g = s.heap.get? := funext h
  rw [e] <;> rfl
section
variable {t : Txt} {K : PySem.W.Frag} {C : Addr}
theorem scls_of (h : sclsB K C = true) : SlX.SCls K C := by
  simp only [sclsB, Bool.and_eq_true] at h
  exact ⟨h.1.1.1, h.1.1.2, h.1.2, He.eqO_ok h.2⟩
theorem cls_of (h : clsB K C = true) : Cls K C := by
  simp only [clsB, Bool.and_eq_true] at h
  exact ⟨h.1.1.1, h.1.1.2, h.1.2, He.eqO_ok h.2⟩
theorem sisi_of (h : sisiB K C = true) : SlX.SIsi K C := by
  simp only [sisiB, Bool.and_eq_true, decide_eq_true_eq] at h
  exact ⟨He.eqO_ok h.1.1.1, He.eqO_ok h.1.1.2, h.1.2, h.2⟩
theorem slot_of {f : Str} {i : Nat} (h : slotB K C f i = true) : SlX.Slot1 K C f (He.ma K C f) i := by
  simp only [slotB, Bool.and_eq_true, decide_eq_true_eq] at h
  obtain ⟨⟨⟨⟨⟨h1, h2⟩, h3⟩, h4⟩, h5⟩, h6⟩ := h
  exact ⟨He.eqO_ok h1, He.eqO_ok h2, h3, h4, h5, h6⟩
theorem meth_of {x m : Str} (h : methB K x m = true) : Meth K (He.ga K x) m (He.ma K (He.ga K x) m) := by
  simp only [methB, Bool.and_eq_true] at h
  exact ⟨He.eqO_ok h.1.1, h.1.2, h.2⟩
theorem isLc_of {b : Option FB} {ar : Nat} {f : Lc → Bool} (h : isLc b ar f = true) : ∃ b', b = some b' ∧ f b'.lc = true ∧ b'.ps.length = ar := by
  cases b with
  | none => cases h
  | some b' =>
    simp only [isLc, Bool.and_eq_true, decide_eq_true_eq] at h
    exact ⟨b', rfl, h.1, h.2⟩
theorem isG_of {x : Str} {l : Lc} (h : l.isG x = true) : l = .g x := by
  cases l with
  | g y => simp only [Lc.isG, decide_eq_true_eq] at h; rw [h]
  | m _ _ => cases h
  | p _ _ => cases h
theorem isM_of {x n : Str} {l : Lc} (h : l.isM x n = true) : l = .m x n := by
  cases l with
  | m y z => simp only [Lc.isM, Bool.and_eq_true, decide_eq_true_eq] at h; rw [h.1, h.2]
  | g _ => cases h
  | p _ _ => cases h
theorem isP_of {x n : Str} {l : Lc} (h : l.isP x n = true) : l = .p x n := by
  cases l with
  | p y z => simp only [Lc.isP, Bool.and_eq_true, decide_eq_true_eq] at h; rw [h.1, h.2]
  | g _ => cases h
  | m _ _ => cases h
theorem mem_look {α β : Type} [BEq α] [LawfulBEq α] : ∀ {l : List (α × β)} {a : α} {b : β}, l.lookup a = some b → (a, b) ∈ l
  | [], a, b, h => by cases h
  | (x, y) :: r, a, b, h => by
    rw [List.lookup_cons] at h
    cases e : a == x with
    | true =>
      rw [e] at h
      cases h
      rw [beq_iff_eq.mp e]
      exact List.mem_cons_self
    | false => rw [e] at h; exact List.mem_cons_of_mem _ (mem_look h)
end
theorem SaysT.def_ {t : Txt} {w : World} {K : PySem.W.Frag} (c : SaysT t w K) {i : Nat} {b : FB} (h : t.fbs[i]? = some b) : ∃ fd, FunD K b.name b.qual b.params b.body b.scope [] [] (b.lc.ad K) fd := by
  have c1 : allOk t K = true := congrArg (fun z : AlT => z.1) c
  have c2 : (t.fbs.all fun b => b.ok K) = true := (He.ba c1).2
  have e : t.fbs.map (fun b => fnWL K b.lc) = t.fbs.map FB.val := congrArg (fun z : AlT => z.2.1) c
  have e2 : (t.fbs.map fun b => fnWL K b.lc)[i]? = (t.fbs.map FB.val)[i]? := by rw [e]
  rw [List.getElem?_map, List.getElem?_map, h] at e2
  exact FB.funD (Option.some.inj e2) (List.all_eq_true.mp c2 b (List.mem_of_getElem? h))
theorem SaysT.tab {t : Txt} {w : World} {K : PySem.W.Frag} (c : SaysT t w K) {p : Str × List (Str × D)} (h : p ∈ t.st.wd) : ∃ es n, KDict K w (He.ga K p.1) es n := by
  have e : t.st.wd.map (fun p => He.dicW K (He.ga K p.1)) = t.st.wd.map fun p => some (He.keysIn w.params (p.2.map (·.1))) := congrArg (fun z : AlT => z.2.2) c
  obtain ⟨i, hi⟩ := List.getElem?_of_mem h
  have e2 : (t.st.wd.map fun p => He.dicW K (He.ga K p.1))[i]? = (t.st.wd.map fun p => some (He.keysIn w.params (p.2.map (·.1))))[i]? := by rw [e]
  rw [List.getElem?_map, List.getElem?_map, hi] at e2
  exact He.dicW_ok (Option.some.inj e2)
def BindOk (t : Txt) : Prop := ∀ (i : Nat) (b : FB), t.fbs[i]? = some b → ∀ (dV kV doc pm : Value) (an : Option Addr) (cdv ct : Value) (us : List Value), dV = .none → us.length = b.ps.length → bindArgs (PySem.W.fnOf b.name b.qual b.params b.body b.scope dV kV doc pm an cdv ct) ⟨us, []⟩ = pure (b.ps.zip us)
def scAll (t : Txt) : Bool := t.fbs.all fun b => C8.scC b.N b.ps b.scope
section
variable {t : Txt} {K : PySem.W.Frag} {mg : Str → Option Value} {P : Program} {w : World} {base : Heap}
def tdOf (b : FB) : TdI := ⟨b.ps.headD Str.empty, b.N, b.scope, b.body⟩
def TdsOk (t : Txt) : Prop := ∀ x td, t.st.told.lookup x = some td → ∃ i b, t.fbs[i]? = some b ∧ b.lc = .g x ∧ b.name = x ∧ b.qual = x ∧ td = tdOf b ∧ b.ps.length = 1 ∧ t.st.fns.lookup x = some (i, 1)
def xiAll (t : Txt) : Bool := (t.xis.all fun p => match t.fbs[p.2]?, t.st.exs.lookup p.1 with
  | some b, some xi => b.lc.isM p.1 "__init__" && (match xi.ini with
    | some ns => decide (b.ps = b.ps.headD Str.empty :: ns)
    | none => false) && xiBody t.pe b.ps b.body && glB b.scope t.pe && decide (b.ps.length ≤ 100)
  | _, _ => false) && t.st.exs.all fun p => p.2.ini.isNone || (t.xis.lookup p.1).isSome
theorem tds_none {t : Txt} (h : t.st.told = []) : TdsOk t := fun x td e => by rw [h] at e; cases e
theorem tds_one {t : Txt} {x₀ : Str} {i : Nat} {b : FB} (h : t.st.told = [(x₀, tdOf b)]) (hi : t.fbs[i]? = some b) (h1 : b.lc = .g x₀) (h2 : b.name = x₀) (h3 : b.qual = x₀) (h4 : b.ps.length = 1) (h5 : t.st.fns.lookup x₀ = some (i, 1)) : TdsOk t := fun x td e => by
  rw [h, List.lookup_cons] at e
  cases q : x == x₀ with
  | true =>
    rw [q] at e
    cases e
    obtain rfl := beq_iff_eq.mp q
    exact ⟨i, b, hi, h1, h2, h3, rfl, h4, h5⟩
  | false => rw [q] at e; cases e
theorem stOk (X : Cx) (hK : X.K = K) (hmg : X.mg = mg) (hw : X.w = w) {h : Heap} (KX : K.In h) (Gm : h.Ns mainGlobals mg) (c : SaysT t w K) (hb : BindOk t) (hs : scAll t = true) (hx : xiAll t = true) (ht : TdsOk t) (k : Nat) (o : Orc) (hr2 : Room (k + 2) X.A)
    (F : ∀ i b, t.fbs[i]? = some b → FnR X.prog X.w X.K X.mg X.base (CX X.prog X.w) k (b.lc.ad K) (spOf (GIof t K mg) (o i) b.ps.length)) : StOk X (GIof t K mg) t.st o := by
  subst hK hmg hw
  have c1 : allOk t X.K = true := congrArg (fun z : AlT => z.1) c
  simp only [allOk, Bool.and_eq_true] at c1
  obtain ⟨⟨⟨⟨⟨⟨⟨⟨⟨c0, c1⟩, c2⟩, c3⟩, c4⟩, c5⟩, c6⟩, c7⟩, c9⟩, c8⟩ := c1
  simp only [excB, Bool.and_eq_true] at c0
  obtain ⟨⟨⟨x1, x2⟩, x3⟩, x4⟩ := c0
  have hr : Room (k + 1) X.A := hr2.mono (Nat.le_succ _)
  have hrk : Room k X.A := hr.mono (Nat.le_succ k)
  refine ⟨fun x d e => ?_, fun x i n e => ?_, fun x ci e => ?_, fun m mi e => ?_, fun f cc kk e => ?_, ?_, fun x hx hg => ?_, fun x l e => ?_, fun x xi e => ?_, fun cc cc' bb e => ?_, fun cc e => ?_, fun x td e => ?_⟩
  · have z := List.all_eq_true.mp c1 (x, d) (mem_look e)
    simp only [gcB] at z
    cases e1 : PySem.W.nsIn X.K mainGlobals x with
    | none => rw [e1] at z; cases z
    | some ou =>
      cases ou with
      | none => rw [e1] at z; cases z
      | some u =>
        rw [e1] at z
        have hm := PySem.W.mg_of KX Gm e1
        simp only at z
        cases d <;> try (cases z; done)
        · rename_i i
          cases u <;> try (cases z; done)
          rename_i j tk
          have z : i = j := by simpa using z
          subst z
          exact ⟨.int i, _, hm, ⟨_, rfl⟩, fun _ _ _ => .int i⟩
        · rename_i i
          cases u <;> try (cases z; done)
          rename_i j tk
          have z : i = j := by simpa using z
          subst z
          exact ⟨.str i, _, hm, ⟨_, rfl⟩, fun _ _ _ => .str i⟩
        · rename_i i
          cases u <;> try (cases z; done)
          rename_i a
          have z : a = He.ga X.K (t.clN.getD i Str.empty) := by simpa using z
          subst z
          exact ⟨.ref _, _, hm, rfl, fun _ _ _ => .cl i⟩
  · have z := List.all_eq_true.mp c2 (x, (i, n)) (mem_look e)
    simp only [Bool.and_eq_true] at z
    obtain ⟨b, e1, e2, e3⟩ := isLc_of z.2
    have el := isG_of e2
    have Fi := F i b e1
    rw [e3, el] at Fi
    have kp : PySem.W.keepIn X.K (.ref (He.ga X.K x)) = true := by
      have zb := List.all_eq_true.mp c8 b (List.mem_of_getElem? e1)
      have := (He.ba zb).1
      rw [el] at this
      exact this
    exact ⟨He.ga X.K x, k, Fi, hrk, PySem.W.mg_of KX Gm (He.eqO_ok z.1), kp⟩
  · have z := List.all_eq_true.mp c3 (x, ci) (mem_look e)
    simp only [Bool.and_eq_true, decide_eq_true_eq] at z
    obtain ⟨⟨⟨⟨⟨z1, z2⟩, z3⟩, z4⟩, z5⟩, z6⟩ := z
    obtain ⟨b, e1, e2, e3⟩ := isLc_of z6
    have el := isM_of e2
    have Fi := F ci.init b e1
    rw [e3, el] at Fi
    have ec : (GIof t X.K X.mg).clA ci.c = He.ga X.K x := by
      show He.ga X.K (t.cn ci.c) = _
      rw [z2]
    have mt := meth_of z4
    refine ⟨He.ma X.K (He.ga X.K x) "__init__", k, ?_, Fi, hr, ?_⟩
    · rw [ec]; exact ⟨z3, mt.at_, mt.fn, z5⟩
    · rw [ec]; exact PySem.W.mg_of KX Gm (He.eqO_ok z1)
  · have z := List.all_eq_true.mp c4 (m, mi) (mem_look e)
    simp only [Bool.and_eq_true] at z
    obtain ⟨⟨z1, z2⟩, z3⟩ := z
    obtain ⟨b, e1, e2, e3⟩ := isLc_of z3
    have el := isM_of e2
    have Fi := F mi.f b e1
    rw [e3, el] at Fi
    refine ⟨_, k, ?_, meth_of z2, Fi, hrk⟩
    show MetK X.K (He.ga X.K (t.cn mi.c)) mi.sl
    unfold MetK
    split at z1
    · rename_i hs; rw [if_pos hs]; exact scls_of z1
    · rename_i hs; rw [if_neg hs]; exact cls_of z1
  · unfold atab at e
    cases e1 : t.st.ats.lookup f with
    | none => rw [e1] at e; cases e
    | some l =>
      rw [e1] at e
      simp only at e
      obtain ⟨a, e2, e3⟩ := Option.map_eq_some_iff.mp e
      have z := List.all_eq_true.mp (List.all_eq_true.mp c5 (f, l) (mem_look e1)) (cc, a) (mem_look e2)
      subst e3
      cases a with
      | slot i =>
        simp only [akB, Bool.and_eq_true] at z
        exact .slot (scls_of z.1) (slot_of z.2)
      | fld =>
        simp only [akB, Bool.and_eq_true] at z
        exact .fld (cls_of z.1) (He.eqO_ok z.2)
      | prop i =>
        simp only [akB, Bool.and_eq_true] at z
        obtain ⟨⟨z1, z2⟩, z3⟩ := z
        obtain ⟨b, e1, e2, e3⟩ := isLc_of z3
        have el := isP_of e2
        have Fi := F i b e1
        rw [e3, el] at Fi
        simp only [propB, Bool.and_eq_true, decide_eq_true_eq] at z2
        obtain ⟨⟨⟨y1, y2⟩, y3⟩, y4⟩ := z2
        cases er : PySem.W.recIn X.K (He.ma X.K (He.ga X.K (t.cn cc)) f) "property" with
        | none => rw [er] at y4; cases y4
        | some vs =>
          rw [er] at y4
          match vs, y4, er with
          | .ref a :: rest, _, er =>
            have ea : (Lc.p (t.cn cc) f).ad X.K = a := by simp only [Lc.ad, er]
            rw [ea] at Fi
            exact .prop (scls_of z1) (He.eqO_ok y1) (He.eqO_ok y2) y3 ⟨rest, er⟩ Fi hr
  · simp only [ownB', Bool.and_eq_true] at c6
    obtain ⟨⟨⟨z1, z2⟩, z3⟩, z4⟩ := c6
    refine ⟨scls_of z1, sisi_of z2, fun f ef => ?_, fun f ef => ?_⟩
    · simp only [ownV] at ef
      obtain ⟨i, e1, e2⟩ := Option.map_eq_some_iff.mp ef
      rw [e1] at z3
      simp only [Bool.and_eq_true] at z3
      obtain ⟨b, b1, b2, b3⟩ := isLc_of z3.2
      have Fi := F i b b1
      rw [b3, isM_of b2, e2] at Fi
      have mt := meth_of z3.1
      exact ⟨_, k, mt.at_, mt.fn, Fi, hr⟩
    · simp only [ownV] at ef
      obtain ⟨i, e1, e2⟩ := Option.map_eq_some_iff.mp ef
      rw [e1] at z4
      simp only [Bool.and_eq_true] at z4
      obtain ⟨b, b1, b2, b3⟩ := isLc_of z4.2
      have Fi := F i b b1
      rw [b3, isM_of b2, e2] at Fi
      have mt := meth_of z4.1.1
      exact ⟨_, k, mt.at_, mt.fn, He.eqO_ok z4.1.2, Fi, hr⟩
  · have z := List.all_eq_true.mp c7 x (by simpa using hx)
    rw [hg] at z
    exact PySem.W.mg_none_of KX Gm (He.eqO_ok (by simpa using z))
  · have z := List.all_eq_true.mp c9 (x, l) (mem_look e)
    simp only [wdB, Bool.and_eq_true] at z
    obtain ⟨es, n, kd⟩ := c.tab (mem_look e)
    refine ⟨He.ga X.K x, PySem.W.mg_of KX Gm (He.eqO_ok z.1), fun y d ey => ?_⟩
    have z2 := List.all_eq_true.mp z.2 (y, d) (mem_look ey)
    simp only [wdvB] at z2
    cases e1 : PySem.W.nsIn X.K (He.ga X.K x) y with
    | none => rw [e1] at z2; cases z2
    | some ou =>
      cases ou with
      | none => rw [e1] at z2; cases z2
      | some u =>
        rw [e1] at z2
        simp only at z2
        cases d <;> try (cases z2; done)
        · rename_i i
          cases u <;> try (cases z2; done)
          rename_i j tk
          have z2 : i = j := by simpa using z2
          subst z2
          exact ⟨.int i, ⟨es, n, _, kd.at_, kd.lit, e1, ⟨_, rfl⟩⟩, fun _ _ _ => .int i⟩
        · rename_i i
          cases u <;> try (cases z2; done)
          rename_i j tk
          have z2 : i = j := by simpa using z2
          subst z2
          exact ⟨.str i, ⟨es, n, _, kd.at_, kd.lit, e1, ⟨_, rfl⟩⟩, fun _ _ _ => .str i⟩
  · have z := List.all_eq_true.mp x1 (x, xi) (mem_look e)
    simp only [exsB, Bool.and_eq_true, decide_eq_true_eq] at z
    obtain ⟨⟨⟨⟨⟨z1, z2⟩, z3⟩, z4⟩, z5⟩, z6⟩ := z
    have ec : (GIof t X.K X.mg).clA xi.c = He.ga X.K x := by
      show He.ga X.K (t.cn xi.c) = _
      rw [z2]
    refine ⟨by rw [ec]; exact PySem.W.mg_of KX Gm (He.eqO_ok z1), by rw [ec]; exact raises_own z3 z4, by rw [ec]; exact z5, fun hi => by rw [ec]; rw [hi] at z6; exact z6, fun ns hi => ?_⟩
    rw [hi] at z6
    simp only [Bool.and_eq_true, decide_eq_true_eq] at z6
    obtain ⟨⟨⟨y1, y2⟩, y3⟩, y4⟩ := z6
    simp only [xiAll, Bool.and_eq_true] at hx
    have w1 := List.all_eq_true.mp hx.2 (x, xi) (mem_look e)
    simp only [hi, Option.isNone_some, Bool.false_or] at w1
    obtain ⟨i, ei⟩ := Option.isSome_iff_exists.mp w1
    have w2 := List.all_eq_true.mp hx.1 (x, i) (mem_look ei)
    simp only [e] at w2
    cases eb : t.fbs[i]? with
    | none => rw [eb] at w2; cases w2
    | some b =>
      rw [eb] at w2
      simp only [hi, Bool.and_eq_true, decide_eq_true_eq] at w2
      obtain ⟨⟨⟨⟨v1, v2⟩, v3⟩, v4⟩, v5⟩ := w2
      have el := isM_of v1
      obtain ⟨fd, Fd⟩ := c.def_ eb
      obtain ⟨oc, od, dV, kV, doc, pm, an, cdv, ct, osl, rfl, lk, hcd, hd, _⟩ := Fd.ex
      have edv : dV = .none := by
        rcases hd with ⟨_, h⟩ | ⟨h, _⟩
        · exact h
        · exact absurd rfl h
      have S : FnScope b.N b.ps b.scope := C8.fnScope_by (List.all_eq_true.mp hs b (List.mem_of_getElem? eb))
      have hxe : t.xis.isEmpty = false := by
        cases q : t.xis with
        | nil => rw [q] at ei; cases ei
        | cons _ _ => rfl
      rw [hxe] at x4
      simp only [Bool.false_or, Bool.and_eq_true] at x4
      rw [el] at lk
      have mt := meth_of y2
      rw [ec]
      refine ⟨oex_of y1, _, _, b.ps, 1, mt.at_, y3, xi_fn (P := X.prog) (w := X.w) (mg := X.mg) (base := X.base) lk hcd S v2 v3 (by have := congrArg List.length v2; simp at this; omega) (oex_of y1) (pe_of x4.1) (gl_of v4) (PySem.W.mg_of KX Gm (He.eqO_ok x4.2)) (fun f hf => He.eqO_ok (List.all_eq_true.mp y4 f hf)), hr2.mono (by omega), .all fun us hl => hb i b eb dV kV doc pm an cdv ct us edv hl⟩
  · unfold subT at e
    cases e1 : t.st.sub.lookup cc with
    | none => rw [e1] at e; cases e
    | some l =>
      rw [e1] at e
      simp only at e
      split at e
      · rename_i hk
        cases e
        obtain ⟨l', e2⟩ := Option.isSome_iff_exists.mp hk
        have z := List.all_eq_true.mp x2 (cc, l) (mem_look e1)
        simp only [Bool.and_eq_true] at z
        have z1 := List.all_eq_true.mp z.1.1 (cc', l') (mem_look e2)
        exact ⟨of_decide_eq_true z1, by unfold xokT; rw [e1]; rfl⟩
      · cases e
  · obtain ⟨l, e1⟩ := Option.isSome_iff_exists.mp e
    have z := List.all_eq_true.mp x2 (cc, l) (mem_look e1)
    simp only [Bool.and_eq_true] at z
    exact ⟨xfB_ok z.1.2, fun f hf => He.eqO_ok (List.all_eq_true.mp z.2 f hf)⟩
  · obtain ⟨i, b, eb, h1, h2, h3, h4, h5, h6⟩ := ht x td e
    subst h4
    obtain ⟨fd, Fd⟩ := c.def_ eb
    obtain ⟨oc, od, dV, kV, doc, pm, an, cdv, ct, osl, rfl, lk, hcd, hd, _⟩ := Fd.ex
    have edv : dV = .none := by
      rcases hd with ⟨_, h⟩ | ⟨h, _⟩
      · exact h
      · exact absurd rfl h
    have S : FnScope b.N b.ps b.scope := C8.fnScope_by (List.all_eq_true.mp hs b (List.mem_of_getElem? eb))
    have zf := List.all_eq_true.mp c2 (x, (i, 1)) (mem_look h6)
    simp only [Bool.and_eq_true] at zf
    have kp : PySem.W.keepIn X.K (.ref (He.ga X.K x)) = true := by
      have := (He.ba (List.all_eq_true.mp c8 b (List.mem_of_getElem? eb))).1
      rw [h1] at this
      exact this
    have eps : b.ps = [b.ps.headD Str.empty] := by
      cases q : b.ps with
      | nil => rw [q] at h5; cases h5
      | cons a r =>
        rw [q] at h5
        cases r with
        | nil => rfl
        | cons _ _ => simp at h5
    have hbd : L2.Binds X.K (PySem.W.fnOf b.name b.qual b.params b.body b.scope dV kV doc pm an cdv ct) b.ps [] := .all fun us hl => hb i b eb dV kV doc pm an cdv ct us edv hl
    rw [h1] at lk
    rw [h2, h3] at lk hbd
    rw [h3] at hcd
    rw [eps] at hbd S
    exact ⟨He.ga X.K x, b.params, dV, kV, doc, pm, cdv, ct, oc, an, od, osl, PySem.W.mg_of KX Gm (He.eqO_ok zf.1), kp, lk, hcd, hbd, S⟩
theorem start_rel {G : GI} {ρ : AM} {m : Nat} {F : Hp} {N : List Str} {ds : List D} {vs : List V} (q : RDs G ρ m F ds vs) : SRel G ρ m F (startD N ds) (L2.start N vs) := by
  have hl := q.length
  refine ⟨by simp [startD, L2.start, hl], fun i d e => ?_⟩
  unfold startD at e
  unfold L2.start
  by_cases hi : i < ds.length
  · rw [List.getElem?_append_left (by simpa using hi), List.getElem?_map] at e
    rw [List.getElem?_append_left (by simpa [← hl] using hi), List.getElem?_map]
    obtain ⟨d', h1, h2⟩ := Option.map_eq_some_iff.mp e
    cases h2
    obtain ⟨v, h3, h4⟩ := q.get h1
    exact ⟨v, by rw [h3]; rfl, h4⟩
  · rw [List.getElem?_append_right (by simpa using hi), List.getElem?_replicate] at e
    split at e <;> cases e
theorem fns_ok {h : Heap} (KX : K.In h) (Gm : h.Ns mainGlobals mg) (c : SaysT t w K) (hb : BindOk t) (hs : scAll t = true) (hx : xiAll t = true) (ht : TdsOk t) : ∀ (k i : Nat) (b : FB), t.fbs[i]? = some b → ∃ fd, Binds K fd b.ps [] ∧ (∀ base, (∀ b ∈ t.lams, LamX.TabB base mg (codeL K b.lc) (b.tb K)) → FnOk P w K mg base (CX P w) (5 * k) (b.lc.ad K) fd b.ps (spOf (GIof t K mg) (fnD t k i) b.ps.length)) ∧
      ∀ (s : Shared) (us : List Value), us.length = b.ps.length → BindsTo s fd ⟨us, []⟩ (b.ps.zip us)
  | 0, i, b, e => by
    obtain ⟨fd, Fd⟩ := c.def_ e
    obtain ⟨oc, od, dV, kV, doc, pm, an, cdv, ct, osl, rfl, lk, hcd, hd, _⟩ := Fd.ex
    have edv : dV = .none := by
      rcases hd with ⟨_, h⟩ | ⟨h, _⟩
      · exact h
      · exact absurd rfl h
    have bd := fun us hl => hb i b e dV kV doc pm an cdv ct us edv hl
    refine ⟨_, .all bd, fun base _ => ⟨fun vs H Q E z => ?_, fun A outer s H args us vs Q E hr he hbd hv z => ?_⟩, fun s us hl => .of_eq (bd us hl)⟩
    · obtain ⟨_, _, _, _, _, _, _, _, z⟩ := z
      exact z.elim
    · obtain ⟨_, _, _, _, _, _, _, _, z⟩ := z
      exact z.elim
  | k + 1, i, b, e => by
    obtain ⟨fd, Fd⟩ := c.def_ e
    obtain ⟨oc, od, dV, kV, doc, pm, an, cdv, ct, osl, rfl, lk, hcd, hd, _⟩ := Fd.ex
    have edv : dV = .none := by
      rcases hd with ⟨_, h⟩ | ⟨h, _⟩
      · exact h
      · exact absurd rfl h
    have bd := fun us hl => hb i b e dV kV doc pm an cdv ct us edv hl
    have S : FnScope b.N b.ps b.scope := C8.fnScope_by (List.all_eq_true.mp hs b (List.mem_of_getElem? e))
    have efn : fnD t (k + 1) i = runB t.st (fnD t k) b := by
      show (match t.fbs[i]? with | some b => runB t.st (fnD t k) b | none => fun _ _ => .no) = _
      rw [e]
    refine ⟨_, .all bd, fun base TB => ?_, fun s us hl => .of_eq (bd us hl)⟩
    rw [show 5 * (k + 1) = (5 * k + 4) + 1 by omega]
    refine fn_of lk hcd S (fun vs H Q E z => ?_) fun A outer s H vs Q E hr z => ?_
    · obtain ⟨_, _, _, _, ds, _, q, hl, _⟩ := z
      rw [← q.length]; exact hl
    · obtain ⟨ρ, h0, F0, R, ds, r, q, hl, wp⟩ := z
      rw [efn] at wp
      have IH : ∀ j b', t.fbs[j]? = some b' → FnR P w K mg base (CX P w) (5 * k) (b'.lc.ad K) (spOf (GIof t K mg) (fnD t k j) b'.ps.length) := fun j b' e' => by
        obtain ⟨fd', hb', hF, _⟩ := fns_ok KX Gm c hb hs hx ht k j b' e'
        have := (hF base TB).raw (dvs := []) hb' .nil
        exact this.imp fun vs H Q E z => by rw [List.append_nil]; exact z
      have hrS : Room (5 * k + 2) (A.deeper (envOfC b.qual b.scope s.heap.objs.size (b.lc.ad K) cdv)) := Room.mono hr (by omega)
      have so : StOk (cxOf (CX P w) P w K mg base b.N b.qual b.scope (b.lc.ad K) cdv A outer s H E) (GIof t K mg) t.st (fnD t k) := stOk (cxOf (CX P w) P w K mg base b.N b.qual b.scope (b.lc.ad K) cdv A outer s H E) rfl rfl rfl KX Gm c hb hs hx ht (5 * k) (fnD t k) hrS IH
      have hc : COk (b.ce t.st) (cxOf (CX P w) P w K mg base b.N b.qual b.scope (b.lc.ad K) cdv A outer s H E) (GIof t K mg) (fnD t k) (fun c d _ H => E c d H) := by
        refine ⟨rfl, rfl, rfl, S.nd, rfl, rfl, so, takes_of (E₁ := fun e' s'' => CX P w outer H s E e' s'') rfl rfl rfl rfl, ?_, rfl, fun _ => ⟨rfl, rfl⟩, fun hl => ?_⟩
        · have := hr.un
          show (A.deeper _).units + 65 < cLine
          omega
        · have c1 : allOk t K = true := congrArg (fun z : AlT => z.1) c
          simp only [allOk, excB, Bool.and_eq_true] at c1
          obtain ⟨⟨⟨⟨⟨⟨⟨⟨⟨⟨⟨⟨_, _⟩, x3⟩, _⟩, _⟩, _⟩, _⟩, _⟩, _⟩, _⟩, _⟩, _⟩, _⟩ := c1
          simp only [lamB, Bool.and_eq_true] at x3
          have hbl : b ∈ t.lams := List.mem_filter.mpr ⟨List.mem_of_getElem? e, hl⟩
          have z := List.all_eq_true.mp x3.1 b hbl
          simp only [Bool.and_eq_true] at z
          have z2 := z.2
          rw [lk] at z2
          simp only at z2
          have ecd : cdv = .ref (codeL K b.lc) := by
            cases cdv with
            | ref cc => have z2 : (cc == codeL K b.lc) = true := z2; rw [beq_iff_eq.mp z2]
            | _ => cases z2
          have hmem : (b.tb K, b.lq) ∈ t.tabs K := List.mem_map.mpr ⟨b, hbl, rfl⟩
          refine ⟨5 * k + 2, codeL K b.lc, b.tb K, hr, fun A' outer' s' H' Ex scope f c' hr' => stOk (LamX.lamCx (cxOf (CX P w) P w K mg base b.N b.qual b.scope (b.lc.ad K) cdv A outer s H E) A' outer' s' H' Ex scope f c') rfl rfl rfl KX Gm c hb hs hx ht (5 * k) (fnD t k) hr' IH, TB b hbl, ecd, hmem, fun p hp ep => ?_⟩
          have u := List.all_eq_true.mp (List.all_eq_true.mp x3.2 p hp) _ hmem
          simp only [Bool.or_eq_true, bne_iff_ne, ne_eq, beq_iff_eq] at u
          rcases u with u | u
          · exact absurd ep u
          · exact u
      refine ⟨_, (sndS (GIof t K mg) (fnD t k) sFuel).ss (b.ce t.st) _ _ hc (passes_of (K := fun e s'' => CX P w outer H s E e s'') (E₁ := fun e' s'' => CX P w outer H s E e' s'') rfl) b.body, ?_⟩
      refine ⟨ρ, startD b.N ds, h0, F0, R, r, start_rel q, ?_⟩
      unfold runB at wp
      cases eo : cSs (fnD t k) sFuel (b.ce t.st) b.body (startD b.N ds) h0 with
      | nx s1 h1 => rw [eo] at wp; exact fun ρ' F' σ' H' x r' _ => wp ρ' F' .non H' x r' .non
      | rt d h1 => rw [eo] at wp; exact wp
      | ex c1 fs s1 h1 => rw [eo] at wp; exact fun ρ' F' cls dd σ' H' x r' _ q' => wp ρ' F' cls dd H' x r' q'
      | bk s1 h1 => rw [eo] at wp; exact wp.elim
      | ct s1 h1 => rw [eo] at wp; exact wp.elim
      | no => rw [eo] at wp; exact wp.elim
end
end Lo
namespace Lo
open PySem PySem.Spec PyProof.Rows L2
theorem rds_ints {G : GI} {ρ : AM} {m : Nat} {F : Hp} : ∀ ns : List Int, RDs G ρ m F (ns.map D.int) (ns.map V.int)
  | [] => .nil
  | n :: r => .cons (.int n) (rds_ints r)
open Classical in
noncomputable def noTab (T : List (Addr × Str)) (H : Hp) : Hp := fun a => if ∃ p ∈ T, p.1 = a then none else H a
theorem noTab_yes {T : List (Addr × Str)} {H : Hp} {a : Addr} (h : ¬ ∃ p ∈ T, p.1 = a) : noTab T H a = H a := if_neg h
theorem noTab_no {T : List (Addr × Str)} {H : Hp} {p : Addr × Str} (h : p ∈ T) : noTab T H p.1 = none := if_pos ⟨p, h, rfl⟩
theorem noTab_sub {T : List (Addr × Str)} {H : Hp} : Sub (noTab T H) H := fun a o e => by
  unfold noTab at e
  split at e
  · cases e
  · exact e
theorem law_sp {t : Txt} {K : PySem.W.Frag} {mg : Str → Option Value} {k i : Nat} (law : ∀ ns : List Int, ns.length ≤ 63 → ∃ h', fnD t k i [.scr (ns.map D.int)] [] = .ok (.bl true) h')
    (H : Hp) (a : Addr) (ns : List Int) (hl : ns.length ≤ 63) (hT : ∀ b ∈ t.lams, H (b.tb K) = some (.tbl #[])) (hS : SqL K H a (ns.map V.int)) : spOf (GIof t K mg) (fnD t k i) 1 [.ref a] H (fun v _ => v = .bl true) (fun _ _ _ => False) := by
  obtain ⟨h', e⟩ := law ns hl
  have hTab : ∀ p ∈ t.tabs K, H p.1 = some (.tbl #[]) := fun p hp => by
    obtain ⟨b, hb, e⟩ := List.mem_map.mp hp
    rw [← e]; exact hT b hb
  have hS' : SqL K (noTab (t.tabs K) H) a (ns.map V.int) := by
    rcases hS with (hS | ⟨o, hS⟩) | hS
    · exact .inl (.inl (by rw [noTab_yes (fun ⟨p, hp, e⟩ => by have := hTab p hp; rw [e, hS] at this; cases this)]; exact hS))
    · exact .inl (.inr ⟨o, by rw [noTab_yes (fun ⟨p, hp, e⟩ => by have := hTab p hp; rw [e, hS] at this; cases this)]; exact hS⟩)
    · exact .inr hS
  refine ⟨⟨fun _ => 0, fun _ => 0⟩, [], noTab (t.tabs K) H, fun _ => none, [.scr (ns.map D.int)], ?_, .cons (.scr hS' (rds_ints ns)) .nil, rfl, ?_⟩
  · refine ⟨noTab_sub, fun _ _ e => (nomatch e), fun _ _ _ => rfl, fun n o e => (nomatch e), fun i j hi => absurd hi (Nat.not_lt_zero _), fun i j o o' e => (nomatch e), fun n hn => absurd hn (Nat.not_lt_zero _), fun n hn => absurd hn (Nat.not_lt_zero _), fun n hn => absurd hn (Nat.not_lt_zero _), ⟨fun p hp => ⟨#[], hTab p hp, True.intro, fun pos cv z => by simp [codeAmong] at z⟩, fun p hp => noTab_no hp, fun _ _ => rfl, fun p hp n o z => nomatch z⟩⟩
  · rw [e]
    intro ρ' F' v H' _ _ q
    cases q
    rfl
theorem law_facts {t : Txt} {l : PySem.W.OpenLaw} {w : World} {K : PySem.W.Frag} {h : Heap} {mg : Str → Option Value} {f : Addr} (X : K.In h) (Gm : h.Ns mainGlobals mg) (c : SaysT t w K) (te : TabE t K h) (hb : BindOk t) (hs : scAll t = true) (hx : xiAll t = true) (ht : TdsOk t) {i k : Nat} {b : FB} {x : Str}
    (e : t.fbs[i]? = some b) (hps : b.ps = [x]) (hlc : b.lc = .g "law") (hfn : t.st.fns.lookup ("law" : Str) = some (i, 1)) (hfa : mg ("law" : Str) = some (.ref f))
    (law : ∀ ns : List Int, ns.length ≤ 63 → ∃ h', fnD t k i [.scr (ns.map D.int)] [] = .ok (.bl true) h') : LamX.LawAtS l w K (CX l.prog w) (5 * k) 63 x mg f h := by
  obtain ⟨fd, hb1, hF, hbd⟩ := fns_ok (P := l.prog) (w := w) X Gm c hb hs hx ht k i b e
  rw [hps] at hF hbd
  have c1 : allOk t K = true := congrArg (fun z : AlT => z.1) c
  simp only [allOk, excB, Bool.and_eq_true] at c1
  obtain ⟨⟨⟨⟨⟨⟨⟨⟨⟨⟨⟨⟨_, _⟩, x3⟩, _⟩, _⟩, c2⟩, _⟩, _⟩, _⟩, _⟩, _⟩, _⟩, _⟩ := c1
  simp only [lamB, Bool.and_eq_true] at x3
  have z := List.all_eq_true.mp c2 (("law" : Str), (i, 1)) (mem_look hfn)
  simp only [Bool.and_eq_true] at z
  have e2 := hfa.symm.trans (PySem.W.mg_of X Gm (He.eqO_ok z.1))
  cases e2
  rw [hlc] at hF
  have mem : ∀ p ∈ t.lams.map fun b => (codeL K b.lc, b.tb K), ∃ b ∈ t.lams, p = (codeL K b.lc, b.tb K) := fun p hp => by
    obtain ⟨b, hb, e⟩ := List.mem_map.mp hp
    exact ⟨b, hb, e.symm⟩
  refine ⟨fd, t.lams.map fun b => (codeL K b.lc, b.tb K), _, fun p hp => ?_, fun p hp => ?_, fun p hp => ?_, fun s u => hbd s [u] rfl, fun H a ns hl _ hH hS => law_sp law H a ns hl (fun b hb => hH _ (List.mem_map.mpr ⟨b, hb, rfl⟩)) hS, fun base _ _ hTB => hF base fun b hb => hTB _ (List.mem_map.mpr ⟨b, hb, rfl⟩)⟩
  · obtain ⟨b, hb, rfl⟩ := mem p hp; exact (te b hb).2
  · obtain ⟨b, hb, rfl⟩ := mem p hp; exact (te b hb).1
  · obtain ⟨b, hb, rfl⟩ := mem p hp
    have z := List.all_eq_true.mp x3.1 b hb
    simp only [Bool.and_eq_true] at z
    exact PySem.W.codeHd_of_K X z.1
theorem cx_no {P : Program} {w : World} {H : Hp} {s s' : Shared} {e : Value} (h : CX P w [] H s (fun _ _ _ => False) e s') : False := by
  obtain ⟨_, _, _, _, _, _, _, _, _, _, _, _, z⟩ := h
  exact z
end Lo
namespace Lo
open PySem PySem.Spec PyProof.Rows L2
structure PEnv where
  f : Str → FnD
  i : Str → FnD
  m : Str → FnD
  a : Str → ATab
  ow : OwnV
  sub : Nat → Nat → Option Bool
def noF : FnD := fun _ _ => .no
def envOf (st : ST) (o : Orc) : PEnv := ⟨fun x => match st.fns.lookup x with | some p => o p.1 | none => noF, fun x => match st.cls.lookup x with | some c => o c.init | none => noF, fun x => match st.mets.lookup x with | some c => o c.f | none => noF, fun f => atab st o f, ownV st o, subT st⟩
def Txt.env (t : Txt) (k : Nat) : PEnv := envOf t.st (fnD t k)
def bodyF (N : List Str) (b : Sc) : FnD := fun ds h => outR (b (startD N ds) h)
def noB : AcB := fun _ _ => .no
def noI : AcI := fun _ _ => .no
def noL : AcL := fun _ _ => .no
end Lo
namespace Lo
open PySem PySem.Spec PyProof.Rows L2
def inRng (j : Int) : Bool := decide (-(2 ^ 62) ≤ j ∧ j < 2 ^ 62)
theorem inRng_of {j : Int} (h1 : -1000000 ≤ j) (h2 : j ≤ 1000000) : inRng j = true := by
  simp only [inRng, decide_eq_true_eq]
  constructor
  · exact Int.le_trans (by decide) h1
  · exact Int.lt_of_le_of_lt h2 (by decide)
theorem inRng_nat {n : Nat} (h2 : n ≤ 1000000) : inRng (n : Int) = true := inRng_of (by omega) (by omega)
section
variable {α β : Type}
def resO (o : Option α) (h : List O) : Res α := match o with
  | some b => .ok b h
  | none => .no
def k1 (f : P1) : D → List O → Res D := fun d h => Res.of (f d h)
def k2b (f : P2) (d : D) : D → List O → Res D := fun e h => Res.of (f d e h)
def k2 (f : P2) (B : Ac) (s : Sl) : D → List O → Res D := fun d h => (B s h).bind (k2b f d)
def kIf (A B : Ac) (s : Sl) : Bool → List O → Res D
  | true, h => A s h
  | false, h => B s h
def kAnd (B : Ac) (s : Sl) : D → List O → Res D
  | .bl true, h => B s h
  | .bl false, h => .ok (.bl false) h
  | _, _ => .no
def kOr (B : Ac) (s : Sl) : D → List O → Res D
  | .bl true, h => .ok (.bl true) h
  | .bl false, h => B s h
  | _, _ => .no
def kNot : D → List O → Res D
  | .bl b, h => .ok (.bl (!b)) h
  | _, _ => .no
def kCh3 (g : P2) (C : Ac) (s : Sl) (e : D) : D → List O → Res D
  | .bl true, h => (C s h).bind (k2b g e)
  | .bl false, h => .ok (.bl false) h
  | _, _ => .no
def kCh2 (f g : P2) (C : Ac) (s : Sl) (d : D) : D → List O → Res D := fun e h => (Res.of (f d e h)).bind (kCh3 g C s e)
def kCh1 (f g : P2) (B C : Ac) (s : Sl) : D → List O → Res D := fun d h => (B s h).bind (kCh2 f g C s d)
def kTr : D → List O → Res Bool := fun d h => resO (truD h d) h
def kTAnd (U : AcB) (s : Sl) : Bool → List O → Res Bool
  | true, h => U s h
  | false, h => .ok false h
def kTOr (U : AcB) (s : Sl) : Bool → List O → Res Bool
  | true, h => .ok true h
  | false, h => U s h
def kTN : Bool → List O → Res Bool := fun b h => .ok (!b) h
def kC2 (d : D) : List D → List O → Res (List D) := fun ds h => .ok (d :: ds) h
def kC1 (L : AcL) (s : Sl) : D → List O → Res (List D) := fun d h => (L s h).bind (kC2 d)
def kS2 (xs : List D) : List D → List O → Res (List D) := fun ds h => .ok (xs ++ ds) h
def kS0 (L : AcL) (s : Sl) (h : List O) : Option (List D) → Res (List D)
  | some xs => (L s h).bind (kS2 xs)
  | none => .no
def kS1 (L : AcL) (s : Sl) : D → List O → Res (List D) := fun d h => kS0 L s h (seqOf h d)
def kN (f : PN) : List D → List O → Res D := fun ds h => Res.of (f ds h)
def kCl (f : FnD) (n : Nat) : List D → List O → Res D := fun ds h => if ds.length = n then callM f ds h else .no
def kRw (f : FnD) (n : Nat) : List D → List O → Res D := fun ds h => if ds.length = n then f ds h else .no
def kM2 (g : P1N) (d : D) : List D → List O → Res D := fun ds h => Res.of (g d ds h)
def kM0 (L : AcL) (s : Sl) (h : List O) (d : D) : Option (String × P1N) → Res D
  | some (_, g) => (L s h).bind (kM2 g d)
  | none => .no
def kM (tb : MTab) (L : AcL) (s : Sl) : D → List O → Res D := fun d h => kM0 L s h d ((tyM h d).bind tb)
def kMt2 (f : FnD) (n : Nat) (d : D) : List D → List O → Res D := fun ds h => if ds.length = n then callM f (d :: ds) h else .no
def kMt0 (f : FnD) (n : Nat) (L : AcL) (s : Sl) (d : D) (h : List O) : Bool → Res D
  | true => (L s h).bind (kMt2 f n d)
  | false => .no
def kMt (sl : Bool) (c : Nat) (m : Str) (f : FnD) (n : Nat) (L : AcL) (s : Sl) : D → List O → Res D := fun d h => kMt0 f n L s d h (metB sl h c m d)
def kAt2 (g : FnD) (d : D) (h : List O) : Bool → Res D
  | true => (callM g [d] h).noEx
  | false => .no
def kAt1 (f : Str) (d : D) (h : List O) : Option AK → Res D
  | some (.slot i) => Res.ofD h (slotD h i d)
  | some .fld => Res.ofD h (fldD h f d)
  | some (.prop g) => kAt2 g d h (sltB h d)
  | none => .no
def kAt0 (T : ATab) (f : Str) (d : D) (h : List O) : Option Nat → Res D
  | some c => kAt1 f d h (T c)
  | none => .no
def kAt (T : ATab) (f : Str) : D → List O → Res D := fun d h => kAt0 T f d h (clsOf h d)
def kSl3 (lv : Bool) (d : D) (lo : Option Int) : Option Int → List O → Res D := fun hi h => Res.of (sliceD lv d lo hi h)
def kSl2 (lv : Bool) (O2 : AcO) (s : Sl) (d : D) : Option Int → List O → Res D := fun lo h => (O2 s h).bind (kSl3 lv d lo)
def kSl1 (lv : Bool) (O1 O2 : AcO) (s : Sl) : D → List O → Res D := fun d h => (O1 s h).bind (kSl2 lv O2 s d)
def kAo : D → List O → Res (Option Int)
  | .int i, h => .ok (some i) h
  | _, _ => .no
def kEx (s : Sl) : D → List O → Out := fun _ h => .nx s h
def kRt : D → List O → Out := fun d h => .rt d h
def kSi (a b : Sc) (s : Sl) : Bool → List O → Out
  | true, h => a s h
  | false, h => b s h
def nxO (h : List O) : Option Sl → Out
  | some s => .nx s h
  | none => .no
def nxH (s : Sl) : Option (List O) → Out
  | some h => .nx s h
  | none => .no
def nxP (i : Nat) (s : Sl) : Option (D × List O) → Out
  | some (z, h) => .nx (s.set i (some z)) h
  | none => .no
def kSet (t : Tgt) (s : Sl) : D → List O → Out := fun d h => nxO h (asgT t d s)
def kPar (ts : List Tgt) (s : Sl) : List D → List O → Out := fun d h => nxO h (asgTs ts d s)
def kI3 (s : Sl) (d o : D) : D → List O → Out := fun i h => nxH s (setI o i d h)
def kI2 (B : Ac) (s : Sl) (d : D) : D → List O → Out := fun o h => (B s h).bindS s (kI3 s d o)
def kI1 (A B : Ac) (s : Sl) : D → List O → Out := fun d h => (A s h).bindS s (kI2 B s d)
def kA2 (T : ATab) (f : Str) (s : Sl) (d : D) : D → List O → Out := fun o h => nxH s (setA T f o d h)
def kA1 (T : ATab) (f : Str) (A : Ac) (s : Sl) : D → List O → Out := fun d h => (A s h).bindS s (kA2 T f s d)
def kAug (i : Nat) (f : P2) (d : D) (s : Sl) : D → List O → Out := fun e h => nxP i s (f d e h)
def kR0 (j : Int) (h : List O) : Bool → Res Src
  | true => .ok (.fx (rngD 0 j.toNat)) h
  | false => .no
def kR1 : D → List O → Res Src
  | .int j, h => kR0 j h (inRng j)
  | _, _ => .no
def kR4 (i j : Int) (h : List O) : Bool → Res Src
  | true => .ok (.fx (rngD i (j - i).toNat)) h
  | false => .no
def kR3 : D → D → List O → Res Src
  | .int i, .int j, h => kR4 i j h (inRng i && inRng j)
  | _, _, _ => .no
def kR2 (B : Ac) (s : Sl) : D → List O → Res Src := fun d h => (B s h).bind (kR3 d)
def kIt : D → List O → Res Src := fun d h => resO (srcOf h d) h
def kEn0 (h : List O) : Option (List D) → Res Src
  | some xs => .ok (.pr (numD 0 xs)) h
  | none => .no
def kEn : D → List O → Res Src := fun d h => kEn0 h (itemsK d)
def kZ3 (h : List O) : Option (List D) → Option (List D) → Res Src
  | some xs, some ys => .ok (.pr (zipD xs ys)) h
  | _, _ => .no
def kZ2 (d : D) : D → List O → Res Src := fun e h => kZ3 h (itemsK d) (itemsK e)
def kZ1 (B : Ac) (s : Sl) : D → List O → Res Src := fun d h => (B s h).bind (kZ2 d)
def kDi (f : List (Key × D) → Src) : D → List O → Res Src
  | .dic kvs, h => .ok (f kvs) h
  | _, _ => .no
def forS (t : Tgt) (a : Sc) (s : Sl) : Src → List O → Out
  | .fx xs, h => forF t a xs s h
  | .pr xs, h => forP t a xs s h
  | .lv n, h => forL t a n whlFuel 0 s h
def kL2 (lv : Bool) : List D → List O → Res D := fun ys h => Res.of (some (mkL lv ys h))
def kL1 (lv : Bool) (t : Tgt) (T : AcB) (A : Ac) (s : Sl) : Src → List O → Res D := fun src h => (compS t T A s src h).bind (kL2 lv)
def kD2 (lv : Bool) : List (Key × D) → List O → Res D := fun ys h => Res.of (some (mkD lv (dictOf [] ys) h))
def kD1 (lv : Bool) (t : Tgt) (T : AcB) (A : Sl → List O → Res (Key × D)) (s : Sl) : Src → List O → Res D := fun src h => (compS t T A s src h).bind (kD2 lv)
def kK3 (e : D) (h : List O) : Option Key → Res (Key × D)
  | some k => .ok (k, e) h
  | none => .no
def kK2 (d : D) : D → List O → Res (Key × D) := fun e h => kK3 e h (keyD d)
def kK1 (B : Ac) (s : Sl) : D → List O → Res (Key × D) := fun d h => (B s h).bind (kK2 d)
def asO (ts : List Tgt) (ds : List D) : Option Sl → Option Sl
  | some s => asgTs ts ds s
  | none => none
def someR (r : Res α) : Res (Option α) := match r with
  | .ok y h => .ok (some y) h
  | _ => .no
def turnR (k : List O → Res α) : Res Bool → Res (Option α)
  | .ok true h1 => someR (k h1)
  | .ok false h1 => .ok none h1
  | _ => .no
end
section
variable {α β : Type} {s s1 : Sl} {h h1 : List O} {d e : D} {A B C V : Ac} {T U : AcB} {L M : AcL} {a b : Sc} {i n : Nat} {t : Tgt} {I J : AcI} {xs ys ds : List D} {f g : P2} {lv : Bool}
@[simp] theorem x_V : acV i s h = (match s[i]? with | some (some d) => .ok d h | _ => .no) := Eq.trans rfl rfl
@[simp] theorem x_C : acC d s h = .ok d h := Eq.trans rfl rfl
@[simp] theorem resO_s {x : α} : resO (some x) h = .ok x h := Eq.trans rfl rfl
@[simp] theorem x_1 {f : P1} : ac1 f A s h = (A s h).bind (k1 f) := Eq.trans rfl rfl
@[simp] theorem k1_a {f : P1} : k1 f d h = Res.of (f d h) := Eq.trans rfl rfl
@[simp] theorem x_2 : ac2 f A B s h = (A s h).bind (k2 f B s) := Eq.trans rfl rfl
@[simp] theorem k2_a : k2 f B s d h = (B s h).bind (k2b f d) := Eq.trans rfl rfl
@[simp] theorem k2b_a : k2b f d e h = Res.of (f d e h) := Eq.trans rfl rfl
@[simp] theorem x_If : acIf T A B s h = (T s h).bind (kIf A B s) := by
  unfold acIf; congr; funext b h1; cases b <;> rfl
@[simp] theorem kIf_t : kIf A B s true h = A s h := Eq.trans rfl rfl
@[simp] theorem kIf_f : kIf A B s false h = B s h := Eq.trans rfl rfl
@[simp] theorem x_And : acAnd A B s h = (A s h).bind (kAnd B s) := by
  unfold acAnd; congr; funext d h1; cases d <;> try rfl
  rename_i b; cases b <;> rfl
@[simp] theorem kAnd_t : kAnd B s (.bl true) h = B s h := Eq.trans rfl rfl
@[simp] theorem kAnd_f : kAnd B s (.bl false) h = .ok (.bl false) h := Eq.trans rfl rfl
@[simp] theorem x_Or : acOr A B s h = (A s h).bind (kOr B s) := by
  unfold acOr; congr; funext d h1; cases d <;> try rfl
  rename_i b; cases b <;> rfl
@[simp] theorem kOr_t : kOr B s (.bl true) h = .ok (.bl true) h := Eq.trans rfl rfl
@[simp] theorem kOr_f : kOr B s (.bl false) h = B s h := Eq.trans rfl rfl
@[simp] theorem x_Not : acNot A s h = (A s h).bind kNot := by
  unfold acNot; congr; funext d h1; cases d <;> rfl
@[simp] theorem kNot_b {b : Bool} : kNot (.bl b) h = .ok (.bl (!b)) h := Eq.trans rfl rfl
@[simp] theorem x_Ch : acCh f g A B C s h = (A s h).bind (kCh1 f g B C s) := by
  unfold acCh; congr; funext d h1; unfold kCh1; congr; funext e h2; unfold kCh2; congr; funext z h3; cases z <;> try rfl
  rename_i b; cases b <;> rfl
@[simp] theorem kCh1_a : kCh1 f g B C s d h = (B s h).bind (kCh2 f g C s d) := Eq.trans rfl rfl
@[simp] theorem kCh2_a : kCh2 f g C s d e h = (Res.of (f d e h)).bind (kCh3 g C s e) := Eq.trans rfl rfl
@[simp] theorem kCh3_t : kCh3 g C s e (.bl true) h = (C s h).bind (k2b g e) := Eq.trans rfl rfl
@[simp] theorem kCh3_f : kCh3 g C s e (.bl false) h = .ok (.bl false) h := Eq.trans rfl rfl
@[simp] theorem x_tbV : tbV A s h = (A s h).bind kTr := by
  unfold tbV; congr; funext d h1; unfold kTr; cases truD h1 d <;> rfl
@[simp] theorem kTr_a : kTr d h = resO (truD h d) h := Eq.trans rfl rfl
@[simp] theorem x_tbAnd : tbAnd T U s h = (T s h).bind (kTAnd U s) := by
  unfold tbAnd; congr; funext b h1; cases b <;> rfl
@[simp] theorem kTAnd_t : kTAnd U s true h = U s h := Eq.trans rfl rfl
@[simp] theorem kTAnd_f : kTAnd U s false h = .ok false h := Eq.trans rfl rfl
@[simp] theorem x_tbOr : tbOr T U s h = (T s h).bind (kTOr U s) := by
  unfold tbOr; congr; funext b h1; cases b <;> rfl
@[simp] theorem kTOr_t : kTOr U s true h = .ok true h := Eq.trans rfl rfl
@[simp] theorem kTOr_f : kTOr U s false h = U s h := Eq.trans rfl rfl
@[simp] theorem x_tbNot : tbNot T s h = (T s h).bind kTN := Eq.trans rfl rfl
@[simp] theorem kTN_a {b : Bool} : kTN b h = .ok (!b) h := Eq.trans rfl rfl
@[simp] theorem x_tbYes : tbYes s h = .ok true h := Eq.trans rfl rfl
@[simp] theorem x_alNil : alNil s h = .ok [] h := Eq.trans rfl rfl
@[simp] theorem x_alCons : alCons A L s h = (A s h).bind (kC1 L s) := Eq.trans rfl rfl
@[simp] theorem kC1_a : kC1 L s d h = (L s h).bind (kC2 d) := Eq.trans rfl rfl
@[simp] theorem kC2_a : kC2 d ds h = .ok (d :: ds) h := Eq.trans rfl rfl
@[simp] theorem x_alStar : alStar A L s h = (A s h).bind (kS1 L s) := by
  unfold alStar; congr
@[simp] theorem kS1_a : kS1 L s d h = kS0 L s h (seqOf h d) := Eq.trans rfl rfl
@[simp] theorem kS0_s : kS0 L s h (some xs) = (L s h).bind (kS2 xs) := Eq.trans rfl rfl
@[simp] theorem kS2_a : kS2 xs ds h = .ok (xs ++ ds) h := Eq.trans rfl rfl
@[simp] theorem x_acN {f : PN} : acN f L s h = (L s h).bind (kN f) := Eq.trans rfl rfl
@[simp] theorem kN_a {f : PN} : kN f ds h = Res.of (f ds h) := Eq.trans rfl rfl
@[simp] theorem x_bind_ok {k : α → List O → Res β} {x : α} : (Res.ok x h).bind k = k x h := Eq.trans rfl rfl
@[simp] theorem x_bindS_ok {k : α → List O → Out} {x : α} : (Res.ok x h).bindS s k = k x h := Eq.trans rfl rfl
@[simp] theorem x_of_some {x : α} : Res.of (some (x, h)) = .ok x h := Eq.trans rfl rfl
@[simp] theorem x_Call {f : FnD} : acCall f n L s h = (L s h).bind (kCl f n) := Eq.trans rfl rfl
@[simp] theorem kCl_a {f : FnD} (hd : ds.length = n) : kCl f n ds h = callM f ds h := if_pos hd
@[simp] theorem x_Raw {f : FnD} : acRaw f n L s h = (L s h).bind (kRw f n) := Eq.trans rfl rfl
@[simp] theorem kRw_a {f : FnD} (hd : ds.length = n) : kRw f n ds h = f ds h := if_pos hd
@[simp] theorem x_M {tb : MTab} : acM tb A L s h = (A s h).bind (kM tb L s) := by
  unfold acM; congr; funext d h1; unfold kM
  cases tyM h1 d with
  | none => rfl
  | some T => cases h2 : tb T <;> simp only [Option.bind_some, h2, kM0]
              rfl
@[simp] theorem kM_a {tb : MTab} : kM tb L s d h = kM0 L s h d ((tyM h d).bind tb) := Eq.trans rfl rfl
@[simp] theorem kM0_s {x : String} {g : P1N} : kM0 L s h d (some (x, g)) = (L s h).bind (kM2 g d) := Eq.trans rfl rfl
@[simp] theorem kM2_a {g : P1N} : kM2 g d ds h = Res.of (g d ds h) := Eq.trans rfl rfl
@[simp] theorem x_Met {sl : Bool} {c : Nat} {m : Str} {f : FnD} : acMet sl c m f n A L s h = (A s h).bind (kMt sl c m f n L s) := by
  unfold acMet; congr; funext d h1; unfold kMt; cases metB sl h1 c m d <;> rfl
@[simp] theorem kMt_a {sl : Bool} {c : Nat} {m : Str} {f : FnD} : kMt sl c m f n L s d h = kMt0 f n L s d h (metB sl h c m d) := Eq.trans rfl rfl
@[simp] theorem kMt0_t {f : FnD} : kMt0 f n L s d h true = (L s h).bind (kMt2 f n d) := Eq.trans rfl rfl
@[simp] theorem kMt2_a {f : FnD} (hd : ds.length = n) : kMt2 f n d ds h = callM f (d :: ds) h := if_pos hd
@[simp] theorem x_Attr {T : ATab} {f : Str} : acAttr T f A s h = (A s h).bind (kAt T f) := by
  unfold acAttr; congr; funext d h1; unfold kAt
  cases clsOf h1 d with
  | none => rfl
  | some c =>
    simp only [kAt0]
    cases hT : T c with
    | none => rfl
    | some k =>
      cases k <;> try rfl
      simp only [kAt1]
      cases sltB h1 d <;> rfl
@[simp] theorem kAt_a {T : ATab} {f : Str} : kAt T f d h = kAt0 T f d h (clsOf h d) := Eq.trans rfl rfl
@[simp] theorem kAt0_s {T : ATab} {f : Str} {c : Nat} : kAt0 T f d h (some c) = kAt1 f d h (T c) := Eq.trans rfl rfl
@[simp] theorem kAt1_s {f : Str} : kAt1 f d h (some (.slot i)) = Res.ofD h (slotD h i d) := Eq.trans rfl rfl
@[simp] theorem kAt1_f {f : Str} : kAt1 f d h (some .fld) = Res.ofD h (fldD h f d) := Eq.trans rfl rfl
@[simp] theorem kAt1_p {f : Str} {g : FnD} : kAt1 f d h (some (.prop g)) = kAt2 g d h (sltB h d) := Eq.trans rfl rfl
@[simp] theorem kAt2_t {g : FnD} : kAt2 g d h true = (callM g [d] h).noEx := Eq.trans rfl rfl
@[simp] theorem x_ofD : Res.ofD h (some d) = .ok d h := Eq.trans rfl rfl
@[simp] theorem x_noEx : (Res.ok d h).noEx = .ok d h := Eq.trans rfl rfl
@[simp] theorem x_Sl {O1 O2 : AcO} : acSl lv A O1 O2 s h = (A s h).bind (kSl1 lv O1 O2 s) := Eq.trans rfl rfl
@[simp] theorem kSl1_a {O1 O2 : AcO} : kSl1 lv O1 O2 s d h = (O1 s h).bind (kSl2 lv O2 s d) := Eq.trans rfl rfl
@[simp] theorem kSl2_a {O2 : AcO} {lo : Option Int} : kSl2 lv O2 s d lo h = (O2 s h).bind (kSl3 lv d lo) := Eq.trans rfl rfl
@[simp] theorem kSl3_a {lo hi : Option Int} : kSl3 lv d lo hi h = Res.of (sliceD lv d lo hi h) := Eq.trans rfl rfl
@[simp] theorem x_aoNone : aoNone s h = .ok none h := Eq.trans rfl rfl
@[simp] theorem x_aoSome : aoSome A s h = (A s h).bind kAo := by
  unfold aoSome; congr; funext d h1; cases d <;> rfl
@[simp] theorem kAo_i {j : Int} : kAo (.int j) h = .ok (some j) h := Eq.trans rfl rfl
@[simp] theorem x_Seq : scSeq a b s h = (a s h).andThen b := Eq.trans rfl rfl
@[simp] theorem x_andThen : (Out.nx s1 h1).andThen b = b s1 h1 := Eq.trans rfl rfl
@[simp] theorem x_andThen_rt : (Out.rt d h1).andThen b = .rt d h1 := Eq.trans rfl rfl
@[simp] theorem x_loop_nx {k : Sc} : (Out.nx s1 h1).loop k = k s1 h1 := Eq.trans rfl rfl
@[simp] theorem x_loop_ct {k : Sc} : (Out.ct s1 h1).loop k = k s1 h1 := Eq.trans rfl rfl
@[simp] theorem x_loop_rt {k : Sc} : (Out.rt d h1).loop k = .rt d h1 := Eq.trans rfl rfl
@[simp] theorem x_scIf : scIf T a b s h = (T s h).bindS s (kSi a b s) := by
  unfold scIf; congr; funext b h1; cases b <;> rfl
@[simp] theorem kSi_t : kSi a b s true h = a s h := Eq.trans rfl rfl
@[simp] theorem kSi_f : kSi a b s false h = b s h := Eq.trans rfl rfl
@[simp] theorem x_scExpr : scExpr A s h = (A s h).bindS s (kEx s) := Eq.trans rfl rfl
@[simp] theorem kEx_a : kEx s d h = .nx s h := Eq.trans rfl rfl
@[simp] theorem x_scRet : scRet A s h = (A s h).bindS s kRt := Eq.trans rfl rfl
@[simp] theorem kRt_a : kRt d h = .rt d h := Eq.trans rfl rfl
@[simp] theorem x_scRetN : scRetN s h = .rt .non h := Eq.trans rfl rfl
@[simp] theorem x_scNx : scNx s h = .nx s h := Eq.trans rfl rfl
@[simp] theorem x_scCt : scCt s h = .ct s h := Eq.trans rfl rfl
@[simp] theorem x_scSet : scSet t A s h = (A s h).bindS s (kSet t s) := by
  unfold scSet; congr
@[simp] theorem kSet_a : kSet t s d h = nxO h (asgT t d s) := Eq.trans rfl rfl
@[simp] theorem nxO_s : nxO h (some s) = .nx s h := Eq.trans rfl rfl
@[simp] theorem nxH_s : nxH s (some h) = .nx s h := Eq.trans rfl rfl
@[simp] theorem nxP_s : nxP i s (some (d, h)) = .nx (s.set i (some d)) h := Eq.trans rfl rfl
@[simp] theorem x_scPar {ts : List Tgt} : scPar ts L s h = (L s h).bindS s (kPar ts s) := by
  unfold scPar; congr
@[simp] theorem kPar_a {ts : List Tgt} : kPar ts s ds h = nxO h (asgTs ts ds s) := Eq.trans rfl rfl
@[simp] theorem x_scItem : scItem A B V s h = (V s h).bindS s (kI1 A B s) := by
  unfold scItem; congr
@[simp] theorem kI1_a : kI1 A B s d h = (A s h).bindS s (kI2 B s d) := Eq.trans rfl rfl
@[simp] theorem kI2_a {o : D} : kI2 B s d o h = (B s h).bindS s (kI3 s d o) := Eq.trans rfl rfl
@[simp] theorem kI3_a {o j : D} : kI3 s d o j h = nxH s (setI o j d h) := Eq.trans rfl rfl
@[simp] theorem x_scAttr {T : ATab} {f : Str} : scAttr T f A V s h = (V s h).bindS s (kA1 T f A s) := by
  unfold scAttr; congr
@[simp] theorem kA1_a {T : ATab} {f : Str} : kA1 T f A s d h = (A s h).bindS s (kA2 T f s d) := Eq.trans rfl rfl
@[simp] theorem kA2_a {T : ATab} {f : Str} {o : D} : kA2 T f s d o h = nxH s (setA T f o d h) := Eq.trans rfl rfl
@[simp] theorem x_asg_nm : asgT (.nm i) d s = some (s.set i (some d)) := by simp only [asgT]
@[simp] theorem x_asg_tp {ts : List Tgt} : asgT (.tp ts) (.tup ds) s = asgTs ts ds s := by simp only [asgT]
@[simp] theorem x_asg_nil : asgTs [] [] s = some s := by simp only [asgTs]
@[simp] theorem x_asg_cons {ts : List Tgt} : asgTs (t :: ts) (d :: ds) s = asO ts ds (asgT t d s) := by
  simp only [asgTs]
  cases asgT t d s <;> rfl
@[simp] theorem asO_s {ts : List Tgt} : asO ts ds (some s) = asgTs ts ds s := Eq.trans rfl rfl
@[simp] theorem x_Rng1 : acRng1 A s h = (A s h).bind kR1 := by
  unfold acRng1; congr; funext d h1; cases d <;> try rfl
  rename_i j
  simp only [kR1, inRng]
  by_cases hj : -(2 ^ 62) ≤ j ∧ j < 2 ^ 62
  · rw [if_pos hj, decide_eq_true hj]; rfl
  · rw [if_neg hj, decide_eq_false hj]; rfl
@[simp] theorem kR1_i {j : Int} : kR1 (.int j) h = kR0 j h (inRng j) := Eq.trans rfl rfl
@[simp] theorem kR0_t {j : Int} : kR0 j h true = .ok (.fx (rngD 0 j.toNat)) h := Eq.trans rfl rfl
@[simp] theorem x_Rng2 : acRng2 A B s h = (A s h).bind (kR2 B s) := by
  unfold acRng2; congr; funext d h1; unfold kR2; congr; funext e h2; cases d <;> cases e <;> try rfl
  rename_i i j
  simp only [kR3, inRng]
  by_cases hi : -(2 ^ 62) ≤ i ∧ i < 2 ^ 62
  · by_cases hj : -(2 ^ 62) ≤ j ∧ j < 2 ^ 62
    · rw [if_pos ⟨hi.1, hi.2, hj.1, hj.2⟩, decide_eq_true hj, decide_eq_true hi]; rfl
    · rw [if_neg (fun z => hj ⟨z.2.2.1, z.2.2.2⟩), decide_eq_false hj, decide_eq_true hi]; rfl
  · rw [if_neg (fun z => hi ⟨z.1, z.2.1⟩), decide_eq_false hi]; rfl
@[simp] theorem kR2_a : kR2 B s d h = (B s h).bind (kR3 d) := Eq.trans rfl rfl
@[simp] theorem kR3_i {i j : Int} : kR3 (.int i) (.int j) h = kR4 i j h (inRng i && inRng j) := Eq.trans rfl rfl
@[simp] theorem kR4_t {i j : Int} : kR4 i j h true = .ok (.fx (rngD i (j - i).toNat)) h := Eq.trans rfl rfl
@[simp] theorem x_It : acIt A s h = (A s h).bind kIt := by
  unfold acIt; congr; funext d h1; unfold kIt; cases srcOf h1 d <;> rfl
@[simp] theorem kIt_a : kIt d h = resO (srcOf h d) h := Eq.trans rfl rfl
@[simp] theorem x_Enum : acEnum A s h = (A s h).bind kEn := by
  unfold acEnum; congr
@[simp] theorem kEn_a : kEn d h = kEn0 h (itemsK d) := Eq.trans rfl rfl
@[simp] theorem kEn0_s : kEn0 h (some xs) = .ok (.pr (numD 0 xs)) h := Eq.trans rfl rfl
@[simp] theorem x_Zip : acZip A B s h = (A s h).bind (kZ1 B s) := by
  unfold acZip; congr
@[simp] theorem kZ1_a : kZ1 B s d h = (B s h).bind (kZ2 d) := Eq.trans rfl rfl
@[simp] theorem kZ2_a : kZ2 d e h = kZ3 h (itemsK d) (itemsK e) := Eq.trans rfl rfl
@[simp] theorem kZ3_s : kZ3 h (some xs) (some ys) = .ok (.pr (zipD xs ys)) h := Eq.trans rfl rfl
@[simp] theorem x_Dic {f : List (Key × D) → Src} : acDic f A s h = (A s h).bind (kDi f) := by
  unfold acDic; congr; funext d h1; cases d <;> rfl
@[simp] theorem kDi_d {f : List (Key × D) → Src} {kvs : List (Key × D)} : kDi f (.dic kvs) h = .ok (f kvs) h := Eq.trans rfl rfl
@[simp] theorem x_For : scFor I t a s h = (I s h).bindS s (forS t a s) := by
  unfold scFor; congr; funext src h1; cases src <;> rfl
@[simp] theorem forS_f : forS t a s (.fx xs) h = forF t a xs s h := Eq.trans rfl rfl
@[simp] theorem forS_p {zs : List (List D)} : forS t a s (.pr zs) h = forP t a zs s h := Eq.trans rfl rfl
@[simp] theorem forS_l : forS t a s (.lv n) h = forL t a n whlFuel 0 s h := Eq.trans rfl rfl
@[simp] theorem x_Lc {vs : List Nat} : acLc lv I t T A vs s h = (I s h).bind (kL1 lv t T A (wipeD s vs)) := Eq.trans rfl rfl
@[simp] theorem kL1_a {src : Src} : kL1 lv t T A s src h = (compS t T A s src h).bind (kL2 lv) := Eq.trans rfl rfl
@[simp] theorem kL2_a : kL2 lv ys h = Res.of (some (mkL lv ys h)) := Eq.trans rfl rfl
@[simp] theorem x_Dc {vs : List Nat} : acDc lv I t T A B vs s h = (I s h).bind (kD1 lv t T (acKV A B) (wipeD s vs)) := Eq.trans rfl rfl
@[simp] theorem kD1_a {src : Src} {G : Sl → List O → Res (Key × D)} : kD1 lv t T G s src h = (compS t T G s src h).bind (kD2 lv) := Eq.trans rfl rfl
@[simp] theorem kD2_a {zs : List (Key × D)} : kD2 lv zs h = Res.of (some (mkD lv (dictOf [] zs) h)) := Eq.trans rfl rfl
@[simp] theorem x_KV : acKV A B s h = (A s h).bind (kK1 B s) := by
  unfold acKV; congr
@[simp] theorem kK1_a : kK1 B s d h = (B s h).bind (kK2 d) := Eq.trans rfl rfl
@[simp] theorem kK2_a : kK2 d e h = kK3 e h (keyD d) := Eq.trans rfl rfl
@[simp] theorem kK3_s {k : Key} : kK3 e h (some k) = .ok (k, e) h := Eq.trans rfl rfl
@[simp] theorem x_compS {γ : Type} {E : Sl → List O → Res γ} : compS t T E s (.fx xs) h = compF t T E s xs [] h := Eq.trans rfl rfl
@[simp] theorem x_compSp {γ : Type} {E : Sl → List O → Res γ} {zs : List (List D)} : compS t T E s (.pr zs) h = compP t T E s zs [] h := Eq.trans rfl rfl
@[simp] theorem x_wipe : wipeD s [] = s := Eq.trans rfl rfl
@[simp] theorem x_wipe_cons {v : Nat} {vs : List Nat} : wipeD s (v :: vs) = (wipeD s vs).set v none := Eq.trans rfl rfl
@[simp] theorem x_mkL_t : mkL true xs h = (.loc h.length, h ++ [.lst xs]) := Eq.trans rfl rfl
@[simp] theorem x_mkL_f : mkL false xs h = (.lst xs, h) := Eq.trans rfl rfl
@[simp] theorem x_mkD_t {kvs : List (Key × D)} : mkD true kvs h = (.loc h.length, h ++ [.dic kvs]) := Eq.trans rfl rfl
@[simp] theorem x_mkD_f {kvs : List (Key × D)} : mkD false kvs h = (.dic kvs, h) := Eq.trans rfl rfl
@[simp] theorem x_out_rt : outR (.rt d h) = .ok d h := Eq.trans rfl rfl
@[simp] theorem x_out_nx : outR (.nx s h) = .ok .non h := Eq.trans rfl rfl
@[simp] theorem someR_ok {y : α} : someR (.ok y h) = .ok (some y) h := Eq.trans rfl rfl
@[simp] theorem turnR_t {k : List O → Res α} : turnR k (.ok true h) = someR (k h) := Eq.trans rfl rfl
@[simp] theorem turnR_f {k : List O → Res α} : turnR k (.ok false h) = .ok none h := Eq.trans rfl rfl
@[simp] theorem x_turn {γ : Type} {E : Sl → List O → Res γ} : turnC T E (some s) h = turnR (E s) (T s h) := by
  simp only [turnC]
  cases T s h with
  | ok b h1 =>
    cases b
    · rfl
    · simp only [turnR]
      cases E s h1 <;> rfl
  | _ => rfl
@[simp] theorem v_tru_bl {b : Bool} : truD h (.bl b) = some b := Eq.trans rfl rfl
@[simp] theorem v_src_tup : srcOf h (.tup xs) = some (.fx xs) := Eq.trans rfl rfl
@[simp] theorem v_src_lst : srcOf h (.lst xs) = some (.fx xs) := Eq.trans rfl rfl
@[simp] theorem v_src_str {x : Str} : srcOf h (.str x) = some (.fx (charsD x)) := Eq.trans rfl rfl
@[simp] theorem v_src_dic {kvs : List (Key × D)} : srcOf h (.dic kvs) = some (.fx (kvs.map fun kv => dK kv.1)) := Eq.trans rfl rfl
@[simp] theorem v_seq_tup : seqOf h (.tup xs) = some xs := Eq.trans rfl rfl
@[simp] theorem v_seq_lst : seqOf h (.lst xs) = some xs := Eq.trans rfl rfl
@[simp] theorem v_seq_scr : seqOf h (.scr xs) = some xs := Eq.trans rfl rfl
@[simp] theorem v_lst_lst : lstOf h (.lst xs) = some xs := Eq.trans rfl rfl
@[simp] theorem v_lst_scr : lstOf h (.scr xs) = some xs := Eq.trans rfl rfl
@[simp] theorem v_lstW_lst : lstW h (.lst xs) = some xs := Eq.trans rfl rfl
theorem v_seq_loc (hn : h[n]? = some (.lst xs)) : seqOf h (.loc n) = some xs := by simp [seqOf, lstOf, hn]
theorem v_lst_loc (hn : h[n]? = some (.lst xs)) : lstOf h (.loc n) = some xs := by simp [lstOf, hn]
theorem v_lstW_loc (hn : h[n]? = some (.lst xs)) : lstW h (.loc n) = some xs := by simp [lstW, hn]
@[simp] theorem v_items_tup : itemsK (.tup xs) = some xs := Eq.trans rfl rfl
@[simp] theorem v_items_lst : itemsK (.lst xs) = some xs := Eq.trans rfl rfl
@[simp] theorem v_items_str {x : Str} : itemsK (.str x) = some (charsD x) := Eq.trans rfl rfl
@[simp] theorem v_item_tup {i : Int} : itemP (.tup xs) (.int i) h = (atI xs i).map fun x => (x, h) := Eq.trans rfl rfl
@[simp] theorem v_item_lst {i : Int} : itemP (.lst xs) (.int i) h = (atI xs i).map fun x => (x, h) := Eq.trans rfl rfl
@[simp] theorem v_item_scr {i : Int} : itemP (.scr xs) (.int i) h = (atI xs i).map fun x => (x, h) := Eq.trans rfl rfl
@[simp] theorem v_item_dic {kvs : List (Key × D)} {x : Str} : itemP (.dic kvs) (.str x) h = (lookK kvs (.inr x)).map fun x => (x, h) := Eq.trans rfl rfl
theorem v_item_loc {i : Int} (hn : h[n]? = some (.lst xs)) : itemP (.loc n) (.int i) h = (atI xs i).map fun x => (x, h) := by
  simp [itemP, itemL, v_seq_loc hn]
theorem v_item_ldic {kvs : List (Key × D)} {x : Str} (hn : h[n]? = some (.dic kvs)) : itemP (.loc n) (.str x) h = (lookK kvs (.inr x)).map fun x => (x, h) := by
  simp [itemP, itemL, seqOf, lstOf, hn, dicOf, keyD]
@[simp] theorem v_gt {i j : Int} : gtP (.int i) (.int j) h = some (.bl (decide (j < i)), h) := Eq.trans rfl rfl
@[simp] theorem v_ge {i j : Int} : geP (.int i) (.int j) h = some (.bl (decide (j ≤ i)), h) := Eq.trans rfl rfl
@[simp] theorem v_lt {i j : Int} : ltP (.int i) (.int j) h = some (.bl (decide (i < j)), h) := Eq.trans rfl rfl
@[simp] theorem v_le {i j : Int} : leP (.int i) (.int j) h = some (.bl (decide (i ≤ j)), h) := Eq.trans rfl rfl
@[simp] theorem v_lts {x y : Str} : ltP (.str x) (.str y) h = some (.bl (decide (x.cps.toList < y.cps.toList)), h) := Eq.trans rfl rfl
@[simp] theorem v_sub {i j : Int} : subP (.int i) (.int j) h = some (.int (i - j), h) := Eq.trans rfl rfl
@[simp] theorem v_add {i j : Int} {lv : Bool} : addP lv (.int i) (.int j) h = some (.int (i + j), h) := Eq.trans rfl rfl
theorem v_mod {i j : Int} (hj : 0 < j) : modP (.int i) (.int j) h = some (.int (i % j), h) := by simp [modP, intP, hj]
theorem v_fdiv {i j : Int} (hj : 0 < j) (hj2 : j < 1073741824) : fdivP (.int i) (.int j) h = some (.int (i / j), h) := by simp [fdivP, intP, divOk, hj, hj2]
@[simp] theorem v_int1 {i : Int} : intP1 [.int i] h = some (.int i, h) := Eq.trans rfl rfl
@[simp] theorem v_int1b {b : Bool} : intP1 [.bl b] h = some (.int (if b then 1 else 0), h) := Eq.trans rfl rfl
@[simp] theorem v_is_non : isP .non .non h = some (.bl true, h) := Eq.trans rfl rfl
@[simp] theorem v_is_int {i : Int} : isP (.int i) .non h = some (.bl false, h) := Eq.trans rfl rfl
@[simp] theorem v_is_str {i : Str} : isP (.str i) .non h = some (.bl false, h) := Eq.trans rfl rfl
@[simp] theorem v_is_tup : isP (.tup xs) .non h = some (.bl false, h) := Eq.trans rfl rfl
@[simp] theorem v_isn_non : isNotP .non .non h = some (.bl false, h) := Eq.trans rfl rfl
@[simp] theorem v_isn_int {i : Int} : isNotP (.int i) .non h = some (.bl true, h) := Eq.trans rfl rfl
@[simp] theorem v_isn_str {i : Str} : isNotP (.str i) .non h = some (.bl true, h) := Eq.trans rfl rfl
@[simp] theorem v_isn_tup : isNotP (.tup xs) .non h = some (.bl true, h) := Eq.trans rfl rfl
@[simp] theorem v_tupleP_l : tupleP [.lst xs] h = some (.tup xs, h) := Eq.trans rfl rfl
@[simp] theorem v_tupleP_t : tupleP [.tup xs] h = some (.tup xs, h) := Eq.trans rfl rfl
theorem v_tupleP_loc (hn : h[n]? = some (.lst xs)) : tupleP [.loc n] h = some (.tup xs, h) := by simp [tupleP, one, v_lst_loc hn]
theorem v_tup (hs : xs.length ≤ 1000000) : tupP xs h = some (.tup xs, h) := by
  unfold tupP; rw [if_pos]; exact Nat.le_trans hs (by decide)
theorem v_list {lv : Bool} (hs : xs.length ≤ 1000000) : lstP lv xs h = some (mkL lv xs h) := by
  unfold lstP; rw [if_pos]; exact Nat.le_trans hs (by decide)
section
variable {ow : OwnV}
@[simp] theorem v_len_tup : lenO ow [.tup xs] h = some (.int xs.length, h) := Eq.trans rfl rfl
@[simp] theorem v_len_lst : lenO ow [.lst xs] h = some (.int xs.length, h) := Eq.trans rfl rfl
@[simp] theorem v_len_scr : lenO ow [.scr xs] h = some (.int xs.length, h) := Eq.trans rfl rfl
@[simp] theorem v_len_dic {kvs : List (Key × D)} : lenO ow [.dic kvs] h = some (.int kvs.length, h) := Eq.trans rfl rfl
theorem v_len_str {x : Str} (hx : x.length ≤ 1000000) : lenO ow [.str x] h = some (.int x.length, h) := by
  have : x.length ≤ sizeLine := Nat.le_trans hx (by decide)
  simp [lenO, ownB, sltB, lenP, one, lenD, this]
theorem v_len_loc (hn : h[n]? = some (.lst xs)) : lenO ow [.loc n] h = some (.int xs.length, h) := by
  simp [lenO, ownB, sltB, lenP, one, lenD, hn, v_seq_loc hn]
@[simp] theorem v_isi_int {i : Int} : isiO ow [.int i, .ty "int"] h = some (.bl true, h) := by
  have : kitB "int" "int" = some true := by decide +kernel
  simp [isiO, isiP, tyD, this]
@[simp] theorem v_isi_int_bool {i : Int} : isiO ow [.int i, .ty "bool"] h = some (.bl false, h) := by
  have : kitB "int" "bool" = some false := by decide +kernel
  simp [isiO, isiP, tyD, this]
@[simp] theorem v_isi_str {x : Str} : isiO ow [.str x, .ty "str"] h = some (.bl true, h) := by
  have : kitB "str" "str" = some true := by decide +kernel
  simp [isiO, isiP, tyD, this]
@[simp] theorem v_isi_str_tup {x : Str} : isiO ow [.str x, .ty "tuple"] h = some (.bl false, h) := by
  have : kitB "str" "tuple" = some false := by decide +kernel
  simp [isiO, isiP, tyD, this]
@[simp] theorem v_isi_tup : isiO ow [.tup xs, .ty "tuple"] h = some (.bl true, h) := by
  have : kitB "tuple" "tuple" = some true := by decide +kernel
  simp [isiO, isiP, tyD, this]
end
end
end Lo
namespace Lo
open PySem PySem.Spec PyProof.Rows L2
mutual
def toP : D → PyData
  | .bl b => .bool b
  | .int i => .int i
  | .str x => .str x
  | .tup xs => .tuple (toPs xs)
  | .lst xs => .list (toPs xs)
  | .scr xs => .list (toPs xs)
  | _ => .none
def toPs : List D → List PyData
  | [] => []
  | d :: r => toP d :: toPs r
end
mutual
def dat : Nat → D → Bool
  | _, .non => true
  | _, .bl _ => true
  | _, .int _ => true
  | _, .str x => PyData.strOk x
  | n + 1, .tup xs => dats n xs
  | n + 1, .lst xs => dats n xs
  | _, _ => false
def dats : Nat → List D → Bool
  | _, [] => true
  | n, d :: r => dat n d && dats n r
end
theorem dats_all {n : Nat} : ∀ {xs : List D}, dats n xs = xs.all (dat n)
  | [] => by simp [dats]
  | x :: r => by simp [dats, dats_all (xs := r)]
def eqPl (d e : D) : Bool := PyData.eqv (toP d) (toP e)
def eqPls (d e : List D) : Bool := PyData.eqvAll (toPs d) (toPs e)
section
variable {h : List O}
theorem toPs_map : ∀ (xs : List D), toPs xs = xs.map toP
  | [] => by simp [toPs]
  | x :: r => by simp [toPs, toPs_map r]
mutual
theorem pd_dat : ∀ {n f : Nat} {d : D}, dat n d = true → n < f → pd h f d = some (toP d)
  | n, f + 1, .non, _, _ => by simp [pd, toP]
  | n, f + 1, .bl b, _, _ => by simp [pd, toP]
  | n, f + 1, .int b, _, _ => by simp [pd, toP]
  | n, f + 1, .str b, _, _ => by simp [pd, toP]
  | n + 1, f + 1, .tup xs, e, hf => by
    simp only [pd, toP]
    rw [pd_dats (by simpa [dat] using e) (by omega)]
    rfl
  | n + 1, f + 1, .lst xs, e, hf => by
    simp only [pd, toP]
    rw [pd_dats (by simpa [dat] using e) (by omega)]
    rfl
  | 0, _, .tup xs, e, hf => by simp [dat] at e
  | 0, _, .lst xs, e, hf => by simp [dat] at e
  | n, _, .scr _, e, _ => by simp [dat] at e
  | n, _, .dic _, e, _ => by simp [dat] at e
  | n, _, .obj _ _, e, _ => by simp [dat] at e
  | n, _, .fn _, e, _ => by simp [dat] at e
  | n, _, .cl _, e, _ => by simp [dat] at e
  | n, _, .ty _, e, _ => by simp [dat] at e
  | n, _, .xn _ _, e, _ => by simp [dat] at e
  | n, _, .loc _, e, _ => by simp [dat] at e
  | n, 0, _, _, hf => by omega
theorem pd_dats : ∀ {n f : Nat} {xs : List D}, dats n xs = true → n < f → xs.mapM (pd h f) = some (toPs xs)
  | n, f, [], _, _ => by simp [toPs]
  | n, f, x :: r, e, hf => by
    simp only [dats, Bool.and_eq_true] at e
    rw [List.mapM_cons, pd_dat e.1 hf, pd_dats e.2 hf]
    simp [toPs]
end
mutual
theorem lay_dat : ∀ {n : Nat} {d : D}, dat n d = true → (toP d).canLay0 = true
  | n, .non, _ => by simp [toP, PyData.canLay0]
  | n, .bl b, _ => by simp [toP, PyData.canLay0]
  | n, .int b, _ => by simp [toP, PyData.canLay0]
  | n, .str b, e => by simpa [toP, PyData.canLay0, dat] using e
  | n + 1, .tup xs, e => by simpa [toP, PyData.canLay0] using lay_dats (n := n) (by simpa [dat] using e)
  | n + 1, .lst xs, e => by simpa [toP, PyData.canLay0] using lay_dats (n := n) (by simpa [dat] using e)
  | 0, .tup xs, e => by simp [dat] at e
  | 0, .lst xs, e => by simp [dat] at e
  | n, .scr _, e => by simp [dat] at e
  | n, .dic _, e => by simp [dat] at e
  | n, .obj _ _, e => by simp [dat] at e
  | n, .fn _, e => by simp [dat] at e
  | n, .cl _, e => by simp [dat] at e
  | n, .ty _, e => by simp [dat] at e
  | n, .xn _ _, e => by simp [dat] at e
  | n, .loc _, e => by simp [dat] at e
theorem lay_dats : ∀ {n : Nat} {xs : List D}, dats n xs = true → PyData.canLayAll0 (toPs xs) = true
  | n, [], _ => by simp [toPs, PyData.canLayAll0]
  | n, x :: r, e => by
    simp only [dats, Bool.and_eq_true] at e
    simp [toPs, PyData.canLayAll0, lay_dat e.1, lay_dats e.2]
end
mutual
theorem dep_dat : ∀ {n : Nat} {d : D}, dat n d = true → (toP d).depth ≤ n
  | n, .non, _ => by simp [toP, PyData.depth]
  | n, .bl b, _ => by simp [toP, PyData.depth]
  | n, .int b, _ => by simp [toP, PyData.depth]
  | n, .str b, e => by simp [toP, PyData.depth]
  | n + 1, .tup xs, e => by
    have := dep_dats (n := n) (xs := xs) (by simpa [dat] using e)
    simp only [toP, PyData.depth]; omega
  | n + 1, .lst xs, e => by
    have := dep_dats (n := n) (xs := xs) (by simpa [dat] using e)
    simp only [toP, PyData.depth]; omega
  | 0, .tup xs, e => by simp [dat] at e
  | 0, .lst xs, e => by simp [dat] at e
  | n, .scr _, e => by simp [dat] at e
  | n, .dic _, e => by simp [dat] at e
  | n, .obj _ _, e => by simp [dat] at e
  | n, .fn _, e => by simp [dat] at e
  | n, .cl _, e => by simp [dat] at e
  | n, .ty _, e => by simp [dat] at e
  | n, .xn _ _, e => by simp [dat] at e
  | n, .loc _, e => by simp [dat] at e
theorem dep_dats : ∀ {n : Nat} {xs : List D}, dats n xs = true → PyData.depthAll (toPs xs) ≤ n
  | n, [], _ => by simp [toPs, PyData.depthAll]
  | n, x :: r, e => by
    simp only [dats, Bool.and_eq_true] at e
    have h1 := dep_dat e.1
    have h2 := dep_dats e.2
    simp only [toPs, PyData.depthAll]; omega
end
theorem shaped_dat {n : Nat} {d : D} (e : dat n d = true) (hn : n ≤ 64) : SeqAt.shaped (toP d) = true := by
  have := dep_dat e
  simp only [SeqAt.shaped, lay_dat e, Bool.true_and, decide_eq_true_eq]
  omega
theorem eqD_dat {d e : D} (h1 : dat 30 d = true) (h2 : dat 30 e = true) : eqD h d e = some (eqPl d e) := by
  unfold eqD
  rw [pd_dat h1 (show 30 < eqFuel by decide), pd_dat h2 (show 30 < eqFuel by decide)]
  simp [shaped_dat h1 (by decide), shaped_dat h2 (by decide), eqPl]
theorem dat_ns {n : Nat} {d : D} (e : dat n d = true) : sltB h d = false ∧ dicOf h d = none := by
  cases d <;> first | exact ⟨rfl, rfl⟩ | simp [dat] at e
theorem v_eq {ow : OwnV} {d e : D} (h1 : dat 30 d = true) (h2 : dat 30 e = true) : eqO ow d e h = some (.bl (eqPl d e), h) := by
  have a := dat_ns (h := h) h1
  unfold eqO
  rw [if_neg (by simp [ownB, a.1])]
  unfold eqX
  rw [a.2]
  simp [eqP, eqD_dat h1 h2, bD]
theorem v_ne {ow : OwnV} {d e : D} (h1 : dat 30 d = true) (h2 : dat 30 e = true) : neO ow d e h = some (.bl (!eqPl d e), h) := by
  have a := dat_ns (h := h) h1
  unfold neO
  rw [if_neg (by simp [ownB, a.1])]
  unfold neX
  rw [a.2]
  simp [neP, eqD_dat h1 h2, bD]
theorem eqvAll_any {p : PyData} {xs : List D} : ((toPs xs).any fun z => PyData.eqv z p) = xs.any fun z => PyData.eqv (toP z) p := by
  rw [toPs_map, List.any_map]; rfl
theorem v_in_tup {d : D} {xs : List D} (h1 : dat 30 d = true) (h2 : dats 29 xs = true) : inP d (.tup xs) h = some (.bl (xs.any fun z => eqPl z d), h) := by
  have h2' : dat 30 (.tup xs) = true := by simpa [dat] using h2
  have e2 := pd_dat (h := h) h2' (show 30 < eqFuel by decide)
  simp only [toP] at e2
  have s2 := shaped_dat h2' (by decide)
  simp only [toP] at s2
  unfold inP inD inSeq
  simp only [dicOf]
  rw [pd_dat h1 (show 30 < eqFuel by decide), e2]
  simp [shaped_dat h1 (by decide), s2, eqvAll_any, eqPl, bD]
theorem v_in_lst {d : D} {xs : List D} (h1 : dat 30 d = true) (h2 : dats 29 xs = true) : inP d (.lst xs) h = some (.bl (xs.any fun z => eqPl z d), h) := by
  have h2' : dat 30 (.lst xs) = true := by simpa [dat] using h2
  have e2 := pd_dat (h := h) h2' (show 30 < eqFuel by decide)
  simp only [toP] at e2
  have s2 := shaped_dat h2' (by decide)
  simp only [toP] at s2
  unfold inP inD inSeq
  simp only [dicOf]
  rw [pd_dat h1 (show 30 < eqFuel by decide), e2]
  simp [shaped_dat h1 (by decide), s2, eqvAll_any, eqPl, bD]
theorem v_nin_tup {d : D} {xs : List D} (h1 : dat 30 d = true) (h2 : dats 29 xs = true) : notInP d (.tup xs) h = some (.bl (!xs.any fun z => eqPl z d), h) := by
  have := v_in_tup (h := h) h1 h2
  unfold inP at this; unfold notInP
  cases e : inD h d (.tup xs) with
  | none => rw [e] at this; simp [bD] at this
  | some b => rw [e] at this; simp [bD] at this; simp [bD, this]
theorem v_nin_lst {d : D} {xs : List D} (h1 : dat 30 d = true) (h2 : dats 29 xs = true) : notInP d (.lst xs) h = some (.bl (!xs.any fun z => eqPl z d), h) := by
  have := v_in_lst (h := h) h1 h2
  unfold inP at this; unfold notInP
  cases e : inD h d (.lst xs) with
  | none => rw [e] at this; simp [bD] at this
  | some b => rw [e] at this; simp [bD] at this; simp [bD, this]
theorem pd_loc {n f : Nat} {xs : List D} (hn : h[n]? = some (.lst xs)) : pd h f (.loc n) = pd h f (.lst xs) := by
  cases f with
  | zero => rfl
  | succ f => simp [pd, hn]
theorem v_eq_loc {ow : OwnV} {n : Nat} {xs : List D} {e : D} (hn : h[n]? = some (.lst xs)) (h1 : dats 29 xs = true) (h2 : dat 30 e = true) : eqO ow (.loc n) e h = some (.bl (eqPl (.lst xs) e), h) := by
  have hd : dicOf h (.loc n) = none := by simp [dicOf, hn]
  unfold eqO
  rw [if_neg (by simp [ownB, sltB, hn])]
  unfold eqX
  rw [hd]
  have := eqD_dat (h := h) (d := .lst xs) (e := e) (by simpa [dat] using h1) h2
  have e2 : eqD h (.loc n) e = eqD h (.lst xs) e := by unfold eqD; rw [pd_loc hn]
  simp [eqP, e2, this, bD]
theorem v_ne_loc {ow : OwnV} {n : Nat} {xs : List D} {e : D} (hn : h[n]? = some (.lst xs)) (h1 : dats 29 xs = true) (h2 : dat 30 e = true) : neO ow (.loc n) e h = some (.bl (!eqPl (.lst xs) e), h) := by
  have hd : dicOf h (.loc n) = none := by simp [dicOf, hn]
  unfold neO
  rw [if_neg (by simp [ownB, sltB, hn])]
  unfold neX
  rw [hd]
  have := eqD_dat (h := h) (d := .lst xs) (e := e) (by simpa [dat] using h1) h2
  have e2 : eqD h (.loc n) e = eqD h (.lst xs) e := by unfold eqD; rw [pd_loc hn]
  simp [neP, e2, this, bD]
end
@[simp] theorem eqPl_ss {x y : Str} : eqPl (.str x) (.str y) = (x == y) := by simp [eqPl, toP, PyData.eqv]
@[simp] theorem eqPl_ii {x y : Int} : eqPl (.int x) (.int y) = (x == y) := by simp [eqPl, toP, PyData.eqv]
@[simp] theorem eqPl_bb {x y : Bool} : eqPl (.bl x) (.bl y) = (x == y) := by simp [eqPl, toP, PyData.eqv]
@[simp] theorem eqPl_nn : eqPl .non .non = true := by simp [eqPl, toP, PyData.eqv]
@[simp] theorem eqPl_si {x : Str} {y : Int} : eqPl (.str x) (.int y) = false := by simp [eqPl, toP, PyData.eqv]
@[simp] theorem eqPl_is {x : Str} {y : Int} : eqPl (.int y) (.str x) = false := by simp [eqPl, toP, PyData.eqv]
@[simp] theorem eqPl_ni {y : Int} : eqPl .non (.int y) = false := by simp [eqPl, toP, PyData.eqv]
@[simp] theorem eqPl_in {y : Int} : eqPl (.int y) .non = false := by simp [eqPl, toP, PyData.eqv]
@[simp] theorem eqPl_sn {y : Str} : eqPl (.str y) .non = false := by simp [eqPl, toP, PyData.eqv]
@[simp] theorem eqPl_ns {y : Str} : eqPl .non (.str y) = false := by simp [eqPl, toP, PyData.eqv]
@[simp] theorem eqPl_st {x : Str} {y : List D} : eqPl (.str x) (.tup y) = false := by simp [eqPl, toP, PyData.eqv]
@[simp] theorem eqPl_ts {x : Str} {y : List D} : eqPl (.tup y) (.str x) = false := by simp [eqPl, toP, PyData.eqv]
@[simp] theorem eqPl_tt {x y : List D} : eqPl (.tup x) (.tup y) = eqPls x y := by simp [eqPl, eqPls, toP, PyData.eqv]
@[simp] theorem eqPl_ll {x y : List D} : eqPl (.lst x) (.lst y) = eqPls x y := by simp [eqPl, eqPls, toP, PyData.eqv]
@[simp] theorem eqPls_nil : eqPls [] [] = true := by simp [eqPls, toPs, PyData.eqvAll]
@[simp] theorem eqPls_cons {x y : D} {xs ys : List D} : eqPls (x :: xs) (y :: ys) = (eqPl x y && eqPls xs ys) := by simp [eqPls, eqPl, toPs, PyData.eqvAll]
@[simp] theorem eqPls_nc {y : D} {ys : List D} : eqPls [] (y :: ys) = false := by simp [eqPls, toPs, PyData.eqvAll]
@[simp] theorem eqPls_cn {y : D} {ys : List D} : eqPls (y :: ys) [] = false := by simp [eqPls, toPs, PyData.eqvAll]
mutual
theorem eqPl_self : ∀ {n : Nat} {d : D}, dat n d = true → eqPl d d = true
  | n, .non, _ => by simp
  | n, .bl b, _ => by simp
  | n, .int b, _ => by simp
  | n, .str b, _ => by simp
  | n + 1, .tup xs, e => by rw [eqPl_tt]; exact eqPls_self (by simpa [dat] using e)
  | n + 1, .lst xs, e => by rw [eqPl_ll]; exact eqPls_self (by simpa [dat] using e)
  | 0, .tup xs, e => by simp [dat] at e
  | 0, .lst xs, e => by simp [dat] at e
  | n, .scr _, e => by simp [dat] at e
  | n, .dic _, e => by simp [dat] at e
  | n, .obj _ _, e => by simp [dat] at e
  | n, .fn _, e => by simp [dat] at e
  | n, .cl _, e => by simp [dat] at e
  | n, .ty _, e => by simp [dat] at e
  | n, .xn _ _, e => by simp [dat] at e
  | n, .loc _, e => by simp [dat] at e
theorem eqPls_self : ∀ {n : Nat} {xs : List D}, dats n xs = true → eqPls xs xs = true
  | n, [], _ => by simp
  | n, x :: r, e => by
    simp only [dats, Bool.and_eq_true] at e
    simp [eqPl_self e.1, eqPls_self e.2]
end
@[simp] theorem dat_non {n : Nat} : dat n .non = true := by cases n <;> rfl
@[simp] theorem dat_bl {n : Nat} {b : Bool} : dat n (.bl b) = true := by cases n <;> rfl
@[simp] theorem dat_int {n : Nat} {b : Int} : dat n (.int b) = true := by cases n <;> rfl
@[simp] theorem dat_str {n : Nat} {b : Str} : dat n (.str b) = PyData.strOk b := by cases n <;> rfl
theorem dat_tup {n : Nat} {b : List D} : dat (n + 1) (.tup b) = dats n b := rfl
theorem dat_lst {n : Nat} {b : List D} : dat (n + 1) (.lst b) = dats n b := rfl
@[simp] theorem dats_nil {n : Nat} : dats n [] = true := by cases n <;> rfl
@[simp] theorem dats_cons {n : Nat} {d : D} {r : List D} : dats n (d :: r) = (dat n d && dats n r) := by cases n <;> rfl
@[simp] theorem dats_ints {n : Nat} : ∀ {xs : List Int}, dats n (xs.map D.int) = true
  | [] => by simp
  | x :: r => by simp [dats_ints (xs := r)]
theorem dats_app {n : Nat} {xs ys : List D} : dats n (xs ++ ys) = (dats n xs && dats n ys) := by simp [dats_all]
section
variable {t : Tgt} {a : Sc} {s : Sl} {h : List O} {T : AcB}
theorem forF_inv {xs : List D} (I : List D → Sl → List O → Prop) (hs : ∀ pre x post s h, xs = pre ++ x :: post → I pre s h → ∃ s', asgT t x s = some s' ∧ ∃ s2 h2, a s' h = .nx s2 h2 ∧ I (pre ++ [x]) s2 h2) :
    I [] s h → ∃ s2 h2, forF t a xs s h = .nx s2 h2 ∧ I xs s2 h2 := by
  have key : ∀ (post pre : List D) (s : Sl) (h : List O), xs = pre ++ post → I pre s h → ∃ s2 h2, forF t a post s h = .nx s2 h2 ∧ I xs s2 h2 := by
    intro post
    induction post with
    | nil => intro pre s h e i; exact ⟨s, h, rfl, by rw [e, List.append_nil]; exact i⟩
    | cons x post ih =>
      intro pre s h e i
      obtain ⟨s', e1, s2, h2, e2, i2⟩ := hs pre x post s h e i
      obtain ⟨s3, h3, e3, i3⟩ := ih (pre ++ [x]) s2 h2 (by simp [e]) i2
      exact ⟨s3, h3, by simp [forF, e1, e2, Out.loop, e3], i3⟩
  exact fun i => key xs [] s h rfl i
theorem forP_inv {ts : List Tgt} {xs : List (List D)} (I : List (List D) → Sl → List O → Prop) (hs : ∀ pre x post s h, xs = pre ++ x :: post → I pre s h → ∃ s', asgTs ts x s = some s' ∧ ∃ s2 h2, a s' h = .nx s2 h2 ∧ I (pre ++ [x]) s2 h2) :
    I [] s h → ∃ s2 h2, forP (.tp ts) a xs s h = .nx s2 h2 ∧ I xs s2 h2 := by
  have key : ∀ (post pre : List (List D)) (s : Sl) (h : List O), xs = pre ++ post → I pre s h → ∃ s2 h2, forP (.tp ts) a post s h = .nx s2 h2 ∧ I xs s2 h2 := by
    intro post
    induction post with
    | nil => intro pre s h e i; exact ⟨s, h, rfl, by rw [e, List.append_nil]; exact i⟩
    | cons x post ih =>
      intro pre s h e i
      obtain ⟨s', e1, s2, h2, e2, i2⟩ := hs pre x post s h e i
      obtain ⟨s3, h3, e3, i3⟩ := ih (pre ++ [x]) s2 h2 (by simp [e]) i2
      exact ⟨s3, h3, by simp [forP, e1, e2, Out.loop, e3], i3⟩
  exact fun i => key xs [] s h rfl i
theorem compF_map {ι α : Type} {E : Sl → List O → Res α} {φ : ι → D} {g : ι → α} {xs : List ι} {acc : List α} (hl : acc.length + xs.length ≤ 1000000) (hs : ∀ x, x ∈ xs → turnC T E (asgT t (φ x) s) h = .ok (some (g x)) h) :
    compF t T E s (xs.map φ) acc h = .ok (acc ++ xs.map g) h := by
  induction xs generalizing acc with
  | nil => simp [compF]
  | cons x r ih =>
    have hz : acc.length < sizeLine := by
      have : (1000000 : Nat) < sizeLine := by decide
      simp only [List.length_cons] at hl; omega
    simp only [List.map_cons, compF]
    rw [hs x List.mem_cons_self, x_bind_ok, if_pos hz]
    simp only [addC]
    rw [ih (by simp only [List.length_append, List.length_cons, List.length_nil] at hl ⊢; omega) fun y hy => hs y (List.mem_cons_of_mem _ hy)]
    simp
theorem compF_filter {ι α : Type} {E : Sl → List O → Res α} {φ : ι → D} {g : ι → α} {p : ι → Bool} {xs : List ι} {acc : List α} (hl : acc.length + xs.length ≤ 1000000) (hs : ∀ x, x ∈ xs → turnC T E (asgT t (φ x) s) h = .ok (if p x = true then some (g x) else none) h) :
    compF t T E s (xs.map φ) acc h = .ok (acc ++ (xs.filter p).map g) h := by
  induction xs generalizing acc with
  | nil => simp [compF]
  | cons x r ih =>
    have hz : acc.length < sizeLine := by
      have : (1000000 : Nat) < sizeLine := by decide
      simp only [List.length_cons] at hl; omega
    simp only [List.map_cons, compF]
    rw [hs x List.mem_cons_self, x_bind_ok, if_pos hz]
    by_cases hp : p x = true
    · rw [if_pos hp]
      simp only [addC]
      rw [ih (by simp only [List.length_append, List.length_cons, List.length_nil] at hl ⊢; omega) fun y hy => hs y (List.mem_cons_of_mem _ hy)]
      simp [hp]
    · rw [if_neg hp]
      simp only [addC]
      rw [ih (by simp only [List.length_cons] at hl ⊢; omega) fun y hy => hs y (List.mem_cons_of_mem _ hy)]
      simp [hp]
theorem compP_map {ι α : Type} {E : Sl → List O → Res α} {ts : List Tgt} {φ : ι → List D} {g : ι → α} {xs : List ι} {acc : List α} (hl : acc.length + xs.length ≤ 1000000) (hs : ∀ x, x ∈ xs → turnC T E (asgTs ts (φ x) s) h = .ok (some (g x)) h) :
    compP (.tp ts) T E s (xs.map φ) acc h = .ok (acc ++ xs.map g) h := by
  induction xs generalizing acc with
  | nil => simp [compP]
  | cons x r ih =>
    have hz : acc.length < sizeLine := by
      have : (1000000 : Nat) < sizeLine := by decide
      simp only [List.length_cons] at hl; omega
    simp only [List.map_cons, compP]
    rw [hs x List.mem_cons_self, x_bind_ok, if_pos hz]
    simp only [addC]
    rw [ih (by simp only [List.length_append, List.length_cons, List.length_nil] at hl ⊢; omega) fun y hy => hs y (List.mem_cons_of_mem _ hy)]
    simp
theorem compF_inv {α : Type} {E : Sl → List O → Res α} {xs : List D} (I : List D → List α → List O → Prop) (hl : xs.length ≤ 1000000) (hs : ∀ pre x post acc h, xs = pre ++ x :: post → I pre acc h → ∃ y h2, turnC T E (asgT t x s) h = .ok (some y) h2 ∧ I (pre ++ [x]) (acc ++ [y]) h2) :
    I [] [] h → ∃ acc h2, compF t T E s xs [] h = .ok acc h2 ∧ I xs acc h2 ∧ acc.length = xs.length := by
  have key : ∀ (post pre : List D) (acc : List α) (h : List O), xs = pre ++ post → acc.length = pre.length → I pre acc h → ∃ acc2 h2, compF t T E s post acc h = .ok acc2 h2 ∧ I xs acc2 h2 ∧ acc2.length = xs.length := by
    intro post
    induction post with
    | nil => intro pre acc h e hc i; exact ⟨acc, h, rfl, by rw [e, List.append_nil]; exact i, by rw [hc, e]; simp⟩
    | cons x post ih =>
      intro pre acc h e hc i
      obtain ⟨y, h2, e2, i2⟩ := hs pre x post acc h e i
      have hz : acc.length < sizeLine := by
        have : (1000000 : Nat) < sizeLine := by decide
        rw [e] at hl; simp only [List.length_append, List.length_cons] at hl; omega
      obtain ⟨acc3, h3, e3, i3⟩ := ih (pre ++ [x]) (acc ++ [y]) h2 (by simp [e]) (by simp [hc]) i2
      exact ⟨acc3, h3, by simp only [compF, e2, x_bind_ok, if_pos hz, addC, e3], i3⟩
  exact fun i => key xs [] [] h rfl rfl i
end
section
variable {f : FnD} {ds : List D} {d d' : D} {h h' : List O}
theorem call_pure (l : lowDs 0 ds = true) (e : f ds [] = .ok d h') (ld : setD h' 0 d = some d') : callM f ds h = .ok d' h := by
  unfold callM
  rw [if_pos l, e]
  simp [setR, ld, setH]
theorem setD_low {m : Nat} (l : lowD m d = true) : setD h m d = some d := by unfold setD; rw [if_pos l]
theorem call_low (l : lowDs 0 ds = true) (e : f ds [] = .ok d h') (ld : lowD 0 d = true) : callM f ds h = .ok d h := call_pure l e (setD_low ld)
end
end Lo
namespace Lo
open PySem PySem.Spec PyProof.Rows L2
mutual
def frd : Nat → D → Bool
  | _, .loc _ => false
  | _, .xn _ _ => false
  | n + 1, .tup xs => frds n xs
  | n + 1, .lst xs => frds n xs
  | n + 1, .scr xs => frds n xs
  | n + 1, .dic kvs => frdk n kvs
  | n + 1, .obj _ fs => frds n fs
  | 0, .tup _ => false
  | 0, .lst _ => false
  | 0, .scr _ => false
  | 0, .dic _ => false
  | 0, .obj _ _ => false
  | _, _ => true
def frds : Nat → List D → Bool
  | _, [] => true
  | n, d :: r => frd n d && frds n r
def frdk : Nat → List (Key × D) → Bool
  | _, [] => true
  | n, (_, d) :: r => frd n d && frdk n r
end
mutual
theorem low_frd : ∀ {n m : Nat} {d : D}, frd n d = true → lowD m d = true
  | n, m, .non, _ => rfl
  | n, m, .bl _, _ => rfl
  | n, m, .int _, _ => rfl
  | n, m, .str _, _ => rfl
  | n, m, .fn _, _ => rfl
  | n, m, .cl _, _ => rfl
  | n, m, .ty _, _ => rfl
  | n, m, .xn _ _, e => by cases n <;> simp [frd] at e
  | n, m, .loc _, e => by cases n <;> simp [frd] at e
  | n + 1, m, .tup xs, e => by simpa [lowD] using low_frds (n := n) (m := m) (by simpa [frd] using e)
  | n + 1, m, .lst xs, e => by simpa [lowD] using low_frds (n := n) (m := m) (by simpa [frd] using e)
  | n + 1, m, .scr xs, e => by simpa [lowD] using low_frds (n := n) (m := m) (by simpa [frd] using e)
  | n + 1, m, .obj _ xs, e => by simpa [lowD] using low_frds (n := n) (m := m) (by simpa [frd] using e)
  | n + 1, m, .dic xs, e => by simpa [lowD] using low_frdk (n := n) (m := m) (by simpa [frd] using e)
  | 0, m, .tup xs, e => by simp [frd] at e
  | 0, m, .lst xs, e => by simp [frd] at e
  | 0, m, .scr xs, e => by simp [frd] at e
  | 0, m, .obj _ xs, e => by simp [frd] at e
  | 0, m, .dic xs, e => by simp [frd] at e
theorem low_frds : ∀ {n m : Nat} {xs : List D}, frds n xs = true → lowDs m xs = true
  | n, m, [], _ => rfl
  | n, m, d :: r, e => by
    simp only [frds, Bool.and_eq_true] at e
    simp [lowDs, low_frd (m := m) e.1, low_frds (m := m) e.2]
theorem low_frdk : ∀ {n m : Nat} {xs : List (Key × D)}, frdk n xs = true → lowDk m xs = true
  | n, m, [], _ => rfl
  | n, m, (k, d) :: r, e => by
    simp only [frdk, Bool.and_eq_true] at e
    simp [lowDk, low_frd (m := m) e.1, low_frdk (m := m) e.2]
end
mutual
theorem frz_frd {h : List O} {m : Nat} : ∀ {n f : Nat} {d : D}, frd n d = true → n < f → frzD h m f d = some d
  | n, f + 1, .non, _, _ => rfl
  | n, f + 1, .bl _, _, _ => rfl
  | n, f + 1, .int _, _, _ => rfl
  | n, f + 1, .str _, _, _ => rfl
  | n, f + 1, .fn _, _, _ => rfl
  | n, f + 1, .cl _, _, _ => rfl
  | n, f + 1, .ty _, _, _ => rfl
  | n, f + 1, .xn _ _, e, _ => by cases n <;> simp [frd] at e
  | n, f + 1, .loc _, e, _ => by cases n <;> simp [frd] at e
  | n + 1, f + 1, .tup xs, e, hf => by
    simp only [frzD]; rw [frz_frds (n := n) (by simpa [frd] using e) (by omega)]; rfl
  | n + 1, f + 1, .lst xs, e, hf => by
    simp only [frzD]; rw [frz_frds (n := n) (by simpa [frd] using e) (by omega)]; rfl
  | n + 1, f + 1, .scr xs, e, hf => by
    simp only [frzD]; rw [frz_frds (n := n) (by simpa [frd] using e) (by omega)]; rfl
  | n + 1, f + 1, .obj _ xs, e, hf => by
    simp only [frzD]; rw [frz_frds (n := n) (by simpa [frd] using e) (by omega)]; rfl
  | n + 1, f + 1, .dic xs, e, hf => by
    simp only [frzD]; rw [frz_frdk (n := n) (by simpa [frd] using e) (by omega)]; rfl
  | 0, _, .tup xs, e, _ => by simp [frd] at e
  | 0, _, .lst xs, e, _ => by simp [frd] at e
  | 0, _, .scr xs, e, _ => by simp [frd] at e
  | 0, _, .obj _ xs, e, _ => by simp [frd] at e
  | 0, _, .dic xs, e, _ => by simp [frd] at e
  | n, 0, _, _, hf => by omega
theorem frz_frds {h : List O} {m : Nat} : ∀ {n f : Nat} {xs : List D}, frds n xs = true → n < f → xs.mapM (frzD h m f) = some xs
  | n, f, [], _, _ => rfl
  | n, f, d :: r, e, hf => by
    simp only [frds, Bool.and_eq_true] at e
    rw [List.mapM_cons, frz_frd e.1 hf, frz_frds e.2 hf]; rfl
theorem frz_frdk {h : List O} {m : Nat} : ∀ {n f : Nat} {xs : List (Key × D)}, frdk n xs = true → n < f → (xs.mapM fun (kv : Key × D) => (frzD h m f kv.2).map fun d => (kv.1, d)) = some xs
  | n, f, [], _, _ => rfl
  | n, f, (k, d) :: r, e, hf => by
    simp only [frdk, Bool.and_eq_true] at e
    rw [List.mapM_cons, frz_frd e.1 hf, frz_frdk e.2 hf]; rfl
end
theorem frds_all {n : Nat} : ∀ {xs : List D}, frds n xs = xs.all (frd n)
  | [] => by simp [frds]
  | x :: r => by simp [frds, frds_all (xs := r)]
theorem frdk_all {n : Nat} : ∀ {xs : List (Key × D)}, frdk n xs = xs.all fun kv => frd n kv.2
  | [] => by simp [frdk]
  | (k, x) :: r => by simp [frdk, frdk_all (xs := r)]
@[simp] theorem frd_non {n : Nat} : frd n .non = true := by cases n <;> rfl
@[simp] theorem frd_bl {n : Nat} {b : Bool} : frd n (.bl b) = true := by cases n <;> rfl
@[simp] theorem frd_int {n : Nat} {b : Int} : frd n (.int b) = true := by cases n <;> rfl
@[simp] theorem frd_str {n : Nat} {b : Str} : frd n (.str b) = true := by cases n <;> rfl
def lowO (m : Nat) : O → Bool
  | .lst xs => lowDs m xs
  | .dic kvs => lowDk m kvs
  | .ins _ fs => fs.all fun o => match o with | some d => lowD m d | none => true
  | .ind _ fs => fs.all fun kv => lowD m kv.2
def LowH (h : List O) : Prop := ∀ o ∈ h, lowO h.length o = true
section
variable {h h' : List O} {m : Nat}
theorem mapM_id {α : Type} {g : α → Option α} : ∀ {xs : List α}, (∀ x ∈ xs, g x = some x) → xs.mapM g = some xs
  | [], _ => rfl
  | x :: r, hx => by
    rw [List.mapM_cons, hx x List.mem_cons_self, mapM_id (xs := r) fun y hy => hx y (List.mem_cons_of_mem _ hy)]; rfl
theorem lowDs_mem : ∀ {xs : List D}, lowDs m xs = true → ∀ x ∈ xs, lowD m x = true
  | [], _, x, hx => by cases hx
  | d :: r, e, x, hx => by
    simp only [lowDs, Bool.and_eq_true] at e
    rcases List.mem_cons.mp hx with rfl | hx
    · exact e.1
    · exact lowDs_mem e.2 x hx
theorem lowDk_mem : ∀ {xs : List (Key × D)}, lowDk m xs = true → ∀ x ∈ xs, lowD m x.2 = true
  | [], _, x, hx => by cases hx
  | (k, d) :: r, e, x, hx => by
    simp only [lowDk, Bool.and_eq_true] at e
    rcases List.mem_cons.mp hx with rfl | hx
    · exact e.1
    · exact lowDk_mem e.2 x hx
theorem setO_low {o : O} (e : lowO m o = true) : setO h m o = some o := by
  cases o with
  | lst xs =>
    simp only [setO]
    rw [mapM_id fun x hx => setD_low (lowDs_mem e x hx)]; rfl
  | dic kvs =>
    simp only [setO]
    rw [mapM_id fun x hx => ?_]; rfl
    rw [setD_low (lowDk_mem e x hx)]; rfl
  | ins c fs =>
    simp only [setO]
    simp only [lowO, List.all_eq_true] at e
    rw [mapM_id fun x hx => ?_]; rfl
    have := e x hx
    cases x with
    | none => rfl
    | some d => simp only [setF]; rw [setD_low this]; rfl
  | ind c fs =>
    simp only [setO]
    simp only [lowO, List.all_eq_true] at e
    rw [mapM_id fun x hx => ?_]; rfl
    rw [setD_low (e x hx)]; rfl
theorem setH_low (hl : ∀ o ∈ h.take m, lowO m o = true) : setH h m = some (h.take m) := mapM_id fun o ho => setO_low (hl o ho)
theorem LowH.set (l : LowH h) : setH h h.length = some h := by
  have := setH_low (h := h) (m := h.length) (by rw [List.take_length]; exact l)
  rwa [List.take_length] at this
theorem call_live {f : FnD} {ds : List D} {d : D} (e : f ds h = .ok d h') (hl : h'.length = h.length) (ld : lowD h.length d = true) (lh : LowH h') (nl : lowDs 0 ds = false) : callM f ds h = .ok d h' := by
  unfold callM
  rw [if_neg (by rw [nl]; decide), e]
  simp only [setR, setD_low ld]
  rw [← hl, lh.set]; rfl
theorem call_drop {f : FnD} {ds : List D} {d d' : D} {new : List O} (e : f ds h = .ok d (h' ++ new)) (hl : h'.length = h.length) (ld : setD (h' ++ new) h.length d = some d') (lh : LowH h') (nl : lowDs 0 ds = false) : callM f ds h = .ok d' h' := by
  unfold callM
  rw [if_neg (by rw [nl]; decide), e]
  have : setH (h' ++ new) h.length = some h' := by
    have := setH_low (h := h' ++ new) (m := h.length) (by rw [← hl, List.take_left]; exact lh)
    rwa [← hl, List.take_left, hl] at this
  simp only [setR, ld, this]; rfl
theorem LowH.nil : LowH [] := fun o ho => by cases ho
end
section
variable {h : List O}
theorem bools_map {ι : Type} {p : ι → Bool} : ∀ {xs : List ι}, bools? (xs.map fun x => D.bl (p x)) = some (xs.map p)
  | [] => rfl
  | x :: r => by
    have := bools_map (p := p) (xs := r)
    simp only [List.map_cons, bools?]; rw [this]; rfl
theorem w_all {ι : Type} {p : ι → Bool} {xs : List ι} : allP [.lst (xs.map fun x => D.bl (p x))] h = some (.bl (xs.all p), h) := by
  simp [allP, one, bools_map, List.all_map]
theorem w_any {ι : Type} {p : ι → Bool} {xs : List ι} : anyP [.lst (xs.map fun x => D.bl (p x))] h = some (.bl (xs.any p), h) := by
  simp [anyP, one, bools_map, List.any_map]
@[simp] theorem v_in_sign {c : Nat} {z : Str} : inP (.str ⟨#[c]⟩) (.str z) h = some (.bl (decide (c ∈ z.cps.toList)), h) := by
  simp [inP, inD, strIn, bD]
theorem charsD_map {x : Str} : charsD x = x.cps.toList.map fun c => D.str ⟨#[c]⟩ := rfl
theorem v_ix_nat {α : Type} {xs : List α} {n : Nat} : atI xs (n : Int) = xs[n]? := by
  unfold atI ixN
  by_cases hn : n < xs.length
  · have : ((n : Int) < (xs.length : Int)) := by omega
    simp [this]
  · have : ¬ ((n : Int) < (xs.length : Int)) := by omega
    simp [this]; omega
theorem v_ix {α : Type} {xs : List α} {i : Int} (h0 : 0 ≤ i) : atI xs i = xs[i.toNat]? := by
  obtain ⟨n, rfl⟩ := Int.eq_ofNat_of_zero_le h0
  rw [Int.toNat_natCast]
  exact v_ix_nat
theorem strs_map : ∀ {xs : List Str}, strs? (xs.map D.str) = some xs
  | [] => rfl
  | x :: r => by
    have := strs_map (xs := r)
    simp only [List.map_cons, strs?]; rw [this]; rfl
theorem ints_map : ∀ {xs : List Int}, ints? (xs.map D.int) = some xs
  | [] => rfl
  | x :: r => by
    have := ints_map (xs := r)
    simp only [List.map_cons, ints?]; rw [this]; rfl
theorem ints_strs : ∀ {xs : List Str}, xs ≠ [] → ints? (xs.map D.str) = none
  | [], e => absurd rfl e
  | x :: r, _ => rfl
end
theorem insB_least {α : Type} {lt : α → α → Bool} {x : α} {l : List α} (hx : ∀ y ∈ l, lt y x = false) : insB lt x l = x :: l := by
  cases l with
  | nil => rfl
  | cons y r => simp [insB, hx y List.mem_cons_self]
theorem cut_from {α : Type} {xs : List α} {k : Nat} : cutG xs (some (k : Int)) none = xs.drop k := by
  unfold cutG
  rw [HT.sIx_nat, HT.sIx_none]
  by_cases hk : k ≤ xs.length
  · rw [Nat.min_eq_left hk, List.take_of_length_le (by simp)]
  · rw [Nat.min_eq_right (by omega), List.drop_eq_nil_of_le (Nat.le_refl _), List.drop_eq_nil_of_le (by omega)]; simp
theorem cut_to {α : Type} {xs : List α} {k : Nat} : cutG xs none (some (k : Int)) = xs.take k := by
  unfold cutG
  rw [HT.sIx_nat, HT.sIx_none]
  simp [← List.take_eq_take_min]
theorem cut_1 {α : Type} {xs : List α} : cutG xs (some 1) none = xs.drop 1 := cut_from (k := 1)
theorem zipD_map {ι κ : Type} {f : ι → D} {g : κ → D} : ∀ {xs : List ι} {ys : List κ}, zipD (xs.map f) (ys.map g) = (xs.zip ys).map fun p => [f p.1, g p.2]
  | [], ys => by simp [zipD]
  | x :: xs, [] => by simp [zipD]
  | x :: xs, y :: ys => by simp [zipD, zipD_map (xs := xs) (ys := ys)]
@[simp] theorem v_slice_tup {h : List O} {lv : Bool} {xs : List D} {lo hi : Option Int} : sliceD lv (.tup xs) lo hi h = some (.tup (cutG xs lo hi), h) := Eq.trans rfl rfl
@[simp] theorem v_slice_lst {h : List O} {lv : Bool} {xs : List D} {lo hi : Option Int} : sliceD lv (.lst xs) lo hi h = some (mkL lv (cutG xs lo hi) h) := Eq.trans rfl rfl
theorem sorted_sort {α : Type} {lt : α → α → Bool} : ∀ {l : List α}, l.Pairwise (fun a b => lt b a = false) → sortB lt l = l
  | [], _ => rfl
  | x :: r, hp => by
    rw [List.pairwise_cons] at hp
    simp only [sortB]
    rw [sorted_sort hp.2]
    exact insB_least hp.1
mutual
theorem lowD_mono {m m' : Nat} (hm : m ≤ m') : ∀ {d : D}, lowD m d = true → lowD m' d = true
  | .non, _ => rfl
  | .bl _, _ => rfl
  | .int _, _ => rfl
  | .str _, _ => rfl
  | .fn _, _ => rfl
  | .cl _, _ => rfl
  | .ty _, _ => rfl
  | .xn _ _, e => by simp [lowD] at e
  | .loc n, e => by simp only [lowD, decide_eq_true_eq] at e ⊢; omega
  | .tup xs, e => by simp only [lowD] at e ⊢; exact lowDs_mono hm e
  | .lst xs, e => by simp only [lowD] at e ⊢; exact lowDs_mono hm e
  | .scr xs, e => by simp only [lowD] at e ⊢; exact lowDs_mono hm e
  | .obj _ xs, e => by simp only [lowD] at e ⊢; exact lowDs_mono hm e
  | .dic xs, e => by simp only [lowD] at e ⊢; exact lowDk_mono hm e
theorem lowDs_mono {m m' : Nat} (hm : m ≤ m') : ∀ {xs : List D}, lowDs m xs = true → lowDs m' xs = true
  | [], _ => rfl
  | d :: r, e => by
    simp only [lowDs, Bool.and_eq_true] at e ⊢
    exact ⟨lowD_mono hm e.1, lowDs_mono hm e.2⟩
theorem lowDk_mono {m m' : Nat} (hm : m ≤ m') : ∀ {xs : List (Key × D)}, lowDk m xs = true → lowDk m' xs = true
  | [], _ => rfl
  | (k, d) :: r, e => by
    simp only [lowDk, Bool.and_eq_true] at e ⊢
    exact ⟨lowD_mono hm e.1, lowDk_mono hm e.2⟩
end
theorem lowO_mono {m m' : Nat} (hm : m ≤ m') {o : O} (e : lowO m o = true) : lowO m' o = true := by
  cases o with
  | lst xs => exact lowDs_mono hm e
  | dic xs => exact lowDk_mono hm e
  | ins c fs =>
    simp only [lowO, List.all_eq_true] at e ⊢
    intro x hx
    have := e x hx
    cases x with
    | none => rfl
    | some d => exact lowD_mono hm this
  | ind c fs =>
    simp only [lowO, List.all_eq_true] at e ⊢
    exact fun x hx => lowD_mono hm (e x hx)
theorem LowH.push {h : List O} {o : O} (l : LowH h) (e : lowO (h.length + 1) o = true) : LowH (h ++ [o]) := fun x hx => by
  rw [List.length_append, List.length_singleton]
  rcases List.mem_append.mp hx with hx | hx
  · exact lowO_mono (Nat.le_succ _) (l x hx)
  · rw [List.mem_singleton.mp hx]; exact e
theorem LowH.put {h : List O} {o : O} {n : Nat} (l : LowH h) (e : lowO h.length o = true) : LowH (h.set n o) := fun x hx => by
  rw [List.length_set]
  rcases List.mem_or_eq_of_mem_set hx with hx | hx
  · exact l x hx
  · rw [hx]; exact e
theorem dicOf_app {h h2 : List O} {d : D} {kvs : List (Key × D)} (e : dicOf h d = some kvs) : dicOf (h ++ h2) d = some kvs := by
  cases d with
  | dic k => exact e
  | loc n =>
    simp only [dicOf] at e ⊢
    cases q : h[n]? with
    | none => rw [q] at e; cases e
    | some o =>
      have hn : n < h.length := (List.getElem?_eq_some_iff.mp q).1
      rw [List.getElem?_append_left hn]
      exact e
  | _ => cases e
theorem get_end {h : List O} {o : O} : (h ++ [o])[h.length]? = some o := List.getElem?_concat_length
theorem set_end {h : List O} {o o' : O} : (h ++ [o]).set h.length o' = h ++ [o'] := by
  rw [List.set_append_right _ _ (Nat.le_refl _)]; simp
theorem dictOf_new : ∀ {ps acc : List (Key × D)}, (acc.map (·.1) ++ ps.map (·.1)).Nodup → dictOf acc ps = acc ++ ps
  | [], acc, _ => by simp [dictOf]
  | (k, d) :: r, acc, hn => by
    have hk : (acc.any fun kv => decide (kv.1 = k)) = false := by
      rw [List.any_eq_false]
      intro x hx e
      have e : x.1 = k := by simpa using e
      rw [List.nodup_append] at hn
      exact hn.2.2 x.1 (List.mem_map_of_mem hx) k (by simp) e
    simp only [dictOf, putD, hk]
    rw [if_neg (by decide), dictOf_new (by simpa using hn)]
    simp
mutual
theorem dat_mono : ∀ {n m : Nat} {d : D}, dat n d = true → n ≤ m → dat m d = true
  | n, m, .non, _, _ => by simp
  | n, m, .bl b, _, _ => by simp
  | n, m, .int b, _, _ => by simp
  | n, m, .str b, e, _ => by simpa using e
  | n + 1, m + 1, .tup xs, e, hm => by rw [dat_tup] at e ⊢; exact dats_mono e (by omega)
  | n + 1, m + 1, .lst xs, e, hm => by rw [dat_lst] at e ⊢; exact dats_mono e (by omega)
  | n + 1, 0, .tup xs, e, hm => by omega
  | n + 1, 0, .lst xs, e, hm => by omega
  | 0, _, .tup xs, e, _ => by simp [dat] at e
  | 0, _, .lst xs, e, _ => by simp [dat] at e
  | n, _, .scr _, e, _ => by simp [dat] at e
  | n, _, .dic _, e, _ => by simp [dat] at e
  | n, _, .obj _ _, e, _ => by simp [dat] at e
  | n, _, .fn _, e, _ => by simp [dat] at e
  | n, _, .cl _, e, _ => by simp [dat] at e
  | n, _, .ty _, e, _ => by simp [dat] at e
  | n, _, .xn _ _, e, _ => by simp [dat] at e
  | n, _, .loc _, e, _ => by simp [dat] at e
theorem dats_mono : ∀ {n m : Nat} {xs : List D}, dats n xs = true → n ≤ m → dats m xs = true
  | n, m, [], _, _ => by simp
  | n, m, d :: r, e, hm => by
    simp only [dats_cons, Bool.and_eq_true] at e ⊢
    exact ⟨dat_mono e.1 hm, dats_mono e.2 hm⟩
end
theorem forF_invM {ι : Type} {t : Tgt} {a : Sc} {s : Sl} {h : List O} {φ : ι → D} {xs : List ι} (I : List ι → Sl → List O → Prop) (hs : ∀ pre x post s h, xs = pre ++ x :: post → I pre s h → ∃ s', asgT t (φ x) s = some s' ∧ ∃ s2 h2, a s' h = .nx s2 h2 ∧ I (pre ++ [x]) s2 h2) :
    I [] s h → ∃ s2 h2, forF t a (xs.map φ) s h = .nx s2 h2 ∧ I xs s2 h2 := by
  have key : ∀ (post pre : List ι) (s : Sl) (h : List O), xs = pre ++ post → I pre s h → ∃ s2 h2, forF t a (post.map φ) s h = .nx s2 h2 ∧ I xs s2 h2 := by
    intro post
    induction post with
    | nil => intro pre s h e i; exact ⟨s, h, rfl, by rw [e, List.append_nil]; exact i⟩
    | cons x post ih =>
      intro pre s h e i
      obtain ⟨s', e1, s2, h2, e2, i2⟩ := hs pre x post s h e i
      obtain ⟨s3, h3, e3, i3⟩ := ih (pre ++ [x]) s2 h2 (by simp [e]) i2
      exact ⟨s3, h3, by simp [forF, e1, e2, Out.loop, e3], i3⟩
  exact fun i => key xs [] s h rfl i
theorem compF_invM {ι α : Type} {t : Tgt} {T : AcB} {s : Sl} {h : List O} {φ : ι → D} {E : Sl → List O → Res α} {xs : List ι} (I : List ι → List α → List O → Prop) (hl : xs.length ≤ 1000000) (hs : ∀ pre x post acc h, xs = pre ++ x :: post → I pre acc h → ∃ y h2, turnC T E (asgT t (φ x) s) h = .ok (some y) h2 ∧ I (pre ++ [x]) (acc ++ [y]) h2) :
    I [] [] h → ∃ acc h2, compF t T E s (xs.map φ) [] h = .ok acc h2 ∧ I xs acc h2 ∧ acc.length = xs.length := by
  have key : ∀ (post pre : List ι) (acc : List α) (h : List O), xs = pre ++ post → acc.length = pre.length → I pre acc h → ∃ acc2 h2, compF t T E s (post.map φ) acc h = .ok acc2 h2 ∧ I xs acc2 h2 ∧ acc2.length = xs.length := by
    intro post
    induction post with
    | nil => intro pre acc h e hc i; exact ⟨acc, h, rfl, by rw [e, List.append_nil]; exact i, by rw [hc, e]; simp⟩
    | cons x post ih =>
      intro pre acc h e hc i
      obtain ⟨y, h2, e2, i2⟩ := hs pre x post acc h e i
      have hz : acc.length < sizeLine := by
        have : (1000000 : Nat) < sizeLine := by decide
        rw [e] at hl; simp only [List.length_append, List.length_cons] at hl; omega
      obtain ⟨acc3, h3, e3, i3⟩ := ih (pre ++ [x]) (acc ++ [y]) h2 (by simp [e]) (by simp [hc]) i2
      exact ⟨acc3, h3, by simp only [List.map_cons, compF, e2, x_bind_ok, if_pos hz, addC, e3], i3⟩
  exact fun i => key xs [] [] h rfl rfl i
def Out.keeps (n : Nat) (xs : List D) : Out → Prop
  | .nx _ h => h[n]? = some (.lst xs)
  | .ct _ h => h[n]? = some (.lst xs)
  | _ => True
theorem forL_forF {t : Tgt} {a : Sc} {n : Nat} {xs : List D} (keep : ∀ s h, h[n]? = some (.lst xs) → (a s h).keeps n xs) : ∀ (f i : Nat) (s : Sl) (h : List O), h[n]? = some (.lst xs) → xs.length - i < f → i ≤ xs.length → forL t a n f i s h = forF t a (xs.drop i) s h
  | 0, i, s, h, _, hf, _ => by omega
  | f + 1, i, s, h, hn, hf, hi => by
    by_cases he : i < xs.length
    · have e1 : xs[i]? = some xs[i] := List.getElem?_eq_getElem he
      rw [List.drop_eq_getElem_cons he]
      simp only [forL, hn, e1, forF]
      cases e2 : asgT t xs[i] s with
      | none => rfl
      | some s' =>
        simp only
        have k := keep s' h hn
        cases e3 : a s' h with
        | nx s2 h2 => rw [e3] at k; simp only [Out.loop]; exact forL_forF keep f (i + 1) s2 h2 k (by omega) (by omega)
        | ct s2 h2 => rw [e3] at k; simp only [Out.loop]; exact forL_forF keep f (i + 1) s2 h2 k (by omega) (by omega)
        | _ => rfl
    · have : i = xs.length := by omega
      subst this
      simp [forL, hn, forF]
theorem srcOf_loc {h : List O} {n : Nat} {xs : List D} (hn : h[n]? = some (.lst xs)) : srcOf h (.loc n) = some (.lv n) := by simp [srcOf, hn]
theorem x_AugN {s : Sl} {h : List O} {i : Nat} {f : P2} {V : Ac} {d : D} (e : s[i]? = some (some d)) : scAugN i f V s h = (V s h).bindS s (kAug i f d s) := by
  unfold scAugN; rw [e]; simp only; congr
@[simp] theorem kAug_a {s : Sl} {h : List O} {i : Nat} {f : P2} {d e : D} : kAug i f d s e h = nxP i s (f d e h) := Eq.trans rfl rfl
theorem x_AugA {s : Sl} {h : List O} {T : ATab} {fld : Str} {f : P2} {A V : Ac} {n c : Nat} {fs : List (Str × D)} {x y z : D} {h1 h3 : List O} (e1 : A s h = .ok (.loc n) h) (e2 : h[n]? = some (.ind c fs)) (e3 : T c = some .fld) (e4 : fs.lookup fld = some x) (e5 : V s h = .ok y h) (e6 : f x y h = some (z, h)) (e7 : fs.length < 1000) :
    scAugA T fld f A V s h = .nx s (h.set n (.ind c (putFD fld z fs))) := by
  unfold scAugA
  rw [e1]
  simp only [x_bindS_ok, e2, e3, e4, e5, e6, true_and, if_pos e7]
theorem rngD_map : ∀ (n : Nat) (i : Int), rngD i n = (List.range n).map fun k => D.int (i + (k : Nat))
  | 0, i => rfl
  | n + 1, i => by
    rw [rngD, rngD_map n (i + 1), List.range_succ_eq_map, List.map_cons, List.map_map]
    simp only [Int.natCast_zero, Int.add_zero]
    congr 1
    refine List.map_congr_left fun k _ => ?_
    simp only [Function.comp, Nat.succ_eq_add_one]
    congr 1
    omega
theorem forF_P {ι : Type} {t : Tgt} {a k : Sc} {s : Sl} {h : List O} {φ : ι → D} {xs : List ι} (P : Out → Prop) (I : List ι → Sl → List O → Prop) (init : I [] s h) (hs : ∀ pre x post s h, xs = pre ++ x :: post → I pre s h → ∃ s', asgT t (φ x) s = some s' ∧ ∃ s2 h2, a s' h = .nx s2 h2 ∧ I (pre ++ [x]) s2 h2)
    (fin : ∀ s2 h2, I xs s2 h2 → P (k s2 h2)) : P ((forF t a (xs.map φ) s h).andThen k) := by
  obtain ⟨s2, h2, e, i⟩ := forF_invM (t := t) (a := a) (s := s) (h := h) (φ := φ) I hs init
  rw [e]
  exact fin s2 h2 i
theorem forP_P {ι : Type} {ts : List Tgt} {a k : Sc} {s : Sl} {h : List O} {φ : ι → List D} {xs : List ι} (P : Out → Prop) (I : List ι → Sl → List O → Prop) (init : I [] s h) (hs : ∀ pre x post s h, xs = pre ++ x :: post → I pre s h → ∃ s', asgTs ts (φ x) s = some s' ∧ ∃ s2 h2, a s' h = .nx s2 h2 ∧ I (pre ++ [x]) s2 h2)
    (fin : ∀ s2 h2, I xs s2 h2 → P (k s2 h2)) : P ((forP (.tp ts) a (xs.map φ) s h).andThen k) := by
  have key : ∀ (post pre : List ι) (s : Sl) (h : List O), xs = pre ++ post → I pre s h → ∃ s2 h2, forP (.tp ts) a (post.map φ) s h = .nx s2 h2 ∧ I xs s2 h2 := by
    intro post
    induction post with
    | nil => intro pre s h e i; exact ⟨s, h, rfl, by rw [e, List.append_nil]; exact i⟩
    | cons x post ih =>
      intro pre s h e i
      obtain ⟨s', e1, s2, h2, e2, i2⟩ := hs pre x post s h e i
      obtain ⟨s3, h3, e3, i3⟩ := ih (pre ++ [x]) s2 h2 (by simp [e]) i2
      exact ⟨s3, h3, by simp [forP, e1, e2, Out.loop, e3], i3⟩
  obtain ⟨s2, h2, e, i⟩ := key xs [] s h rfl init
  rw [e]
  exact fin s2 h2 i
theorem compF_P {ι α β : Type} {t : Tgt} {T : AcB} {s : Sl} {h : List O} {φ : ι → D} {E : Sl → List O → Res α} {xs : List ι} {k : List α → List O → Res β} (P : Res β → Prop) (I : List ι → List α → List O → Prop) (hl : xs.length ≤ 1000000) (init : I [] [] h)
    (hs : ∀ pre x post acc h, xs = pre ++ x :: post → I pre acc h → ∃ y h2, turnC T E (asgT t (φ x) s) h = .ok (some y) h2 ∧ I (pre ++ [x]) (acc ++ [y]) h2)
    (fin : ∀ acc h2, I xs acc h2 → acc.length = xs.length → P (k acc h2)) : P ((compF t T E s (xs.map φ) [] h).bind k) := by
  obtain ⟨acc, h2, e, i, l⟩ := compF_invM (t := t) (T := T) (s := s) (h := h) (φ := φ) (E := E) I hl hs init
  rw [e]
  exact fin acc h2 i l
theorem v_mul {h : List O} {lv : Bool} {i j : Int} (hz : small64 i = true ∨ small64 j = true) : mulP lv (.int i) (.int j) h = some (.int (i * j), h) := by
  simp only [mulP]; rw [if_pos hz]
theorem v_add_lst {h : List O} {lv : Bool} {xs ys : List D} (hl : xs.length + ys.length ≤ 1000000) : addP lv (.lst xs) (.lst ys) h = some (mkL lv (xs ++ ys) h) := by
  have : xs.length + ys.length ≤ sizeLine := Nat.le_trans hl (by decide)
  simp [addP, addL, this]
theorem v_add_tup {h : List O} {lv : Bool} {xs ys : List D} (hl : xs.length + ys.length ≤ 1000000) : addP lv (.tup xs) (.tup ys) h = some (.tup (xs ++ ys), h) := by
  have : xs.length + ys.length ≤ sizeLine := Nat.le_trans hl (by decide)
  simp [addP, this]
theorem v_add_loc {h : List O} {lv : Bool} {n : Nat} {xs ys : List D} (hn : h[n]? = some (.lst xs)) (hl : xs.length + ys.length ≤ 1000000) : addP lv (.loc n) (.lst ys) h = some (mkL lv (xs ++ ys) h) := by
  have : xs.length + ys.length ≤ sizeLine := Nat.le_trans hl (by decide)
  simp [addP, addL, v_lstW_loc hn, this]
theorem ty_loc {h : List O} {n : Nat} {xs : List D} (hn : h[n]? = some (.lst xs)) : tyM h (.loc n) = some "list" := by simp [tyM, v_lstW_loc hn]
@[simp] theorem ty_str {h : List O} {x : Str} : tyM h (.str x) = some "str" := Eq.trans rfl rfl
@[simp] theorem ty_tup {h : List O} {x : List D} : tyM h (.tup x) = some "tuple" := Eq.trans rfl rfl
@[simp] theorem tb_ap : tbAppend "list" = some ("list.append", appendP) := Eq.trans rfl rfl
@[simp] theorem tb_ex : tbExtend "list" = some ("list.extend", extendP) := Eq.trans rfl rfl
@[simp] theorem tb_po : tbPop "list" = some ("list.pop", popP) := Eq.trans rfl rfl
@[simp] theorem tb_ixs : tbIndex "str" = some ("str.index", sindexP) := Eq.trans rfl rfl
@[simp] theorem tb_ixt : tbIndex "tuple" = some ("tuple.index", indexP pdTup) := Eq.trans rfl rfl
@[simp] theorem tb_jo : tbJoin "str" = some ("str.join", joinP) := Eq.trans rfl rfl
theorem v_append {h : List O} {n : Nat} {xs : List D} {y : D} (hn : h[n]? = some (.lst xs)) (hl : xs.length ≤ 1000000) : appendP (.loc n) [y] h = some (.non, h.set n (.lst (xs ++ [y]))) := by
  have : xs.length < sizeLine := Nat.lt_of_le_of_lt hl (by decide)
  simp [appendP, liveL, hn, this]
theorem v_extend {h : List O} {n : Nat} {xs ys : List D} (hn : h[n]? = some (.lst xs)) (hl : xs.length + ys.length ≤ 1000000) : extendP (.loc n) [.lst ys] h = some (.non, h.set n (.lst (xs ++ ys))) := by
  have : xs.length + ys.length ≤ sizeLine := Nat.le_trans hl (by decide)
  simp [extendP, liveL, hn, this]
theorem forL_P {ι : Type} {t : Tgt} {a k : Sc} {s : Sl} {h : List O} {n : Nat} {φ : ι → D} {xs : List ι} (P : Out → Prop) (I : List ι → Sl → List O → Prop) (hl : xs.length ≤ 900000) (live : ∀ pre s h, I pre s h → h[n]? = some (.lst (xs.map φ))) (init : I [] s h)
    (hs : ∀ pre x post s h, xs = pre ++ x :: post → I pre s h → ∃ s', asgT t (φ x) s = some s' ∧ ∃ s2 h2, a s' h = .nx s2 h2 ∧ I (pre ++ [x]) s2 h2)
    (fin : ∀ s2 h2, I xs s2 h2 → P (k s2 h2)) : P ((forL t a n whlFuel 0 s h).andThen k) := by
  have key : ∀ (post pre : List ι) (f : Nat) (s : Sl) (h : List O), xs = pre ++ post → post.length < f → I pre s h → ∃ s2 h2, forL t a n f pre.length s h = .nx s2 h2 ∧ I xs s2 h2 := by
    intro post
    induction post with
    | nil =>
      intro pre f s h e hf i
      obtain ⟨f, rfl⟩ : ∃ g, f = g + 1 := ⟨f - 1, by simp at hf; omega⟩
      have := live pre s h i
      exact ⟨s, h, by simp [forL, this, e], by rw [e, List.append_nil]; exact i⟩
    | cons x post ih =>
      intro pre f s h e hf i
      obtain ⟨f, rfl⟩ : ∃ g, f = g + 1 := ⟨f - 1, by simp at hf; omega⟩
      have lv := live pre s h i
      obtain ⟨s', e1, s2, h2, e2, i2⟩ := hs pre x post s h e i
      obtain ⟨s3, h3, e3, i3⟩ := ih (pre ++ [x]) f s2 h2 (by simp [e]) (by simp at hf; omega) i2
      have ex : (xs.map φ)[pre.length]? = some (φ x) := by rw [e]; simp
      refine ⟨s3, h3, ?_, i3⟩
      rw [List.length_append, List.length_singleton] at e3
      simp [forL, lv, ex, e1, e2, Out.loop, e3]
  obtain ⟨s2, h2, e, i⟩ := key xs [] whlFuel s h rfl (by simp [whlFuel]; omega) init
  rw [List.length_nil] at e
  rw [e]
  exact fin s2 h2 i
def NX (o : Out) (Q : Sl → List O → Prop) : Prop := ∃ s h, o = .nx s h ∧ Q s h
@[simp] theorem NX_nx {s : Sl} {h : List O} {Q : Sl → List O → Prop} : NX (.nx s h) Q ↔ Q s h := ⟨fun ⟨_, _, e, q⟩ => by cases e; exact q, fun q => ⟨s, h, rfl, q⟩⟩
def OK {α : Type} (r : Res α) (Q : α → List O → Prop) : Prop := ∃ d h, r = .ok d h ∧ Q d h
@[simp] theorem OK_ok {α : Type} {d : α} {h : List O} {Q : α → List O → Prop} : OK (.ok d h) Q ↔ Q d h := ⟨fun ⟨_, _, e, q⟩ => by cases e; exact q, fun q => ⟨d, h, rfl, q⟩⟩
def YS {α : Type} (r : Res (Option α)) (Q : α → List O → Prop) : Prop := ∃ d h, r = .ok (some d) h ∧ Q d h
@[simp] theorem YS_ok {α : Type} {d : α} {h : List O} {Q : α → List O → Prop} : YS (.ok (some d) h) Q ↔ Q d h := ⟨fun ⟨_, _, e, q⟩ => by cases e; exact q, fun q => ⟨d, h, rfl, q⟩⟩
def stO (a : Sc) (h : List O) : Option Sl → Out
  | some s => a s h
  | none => .no
@[simp] theorem stO_s {a : Sc} {h : List O} {s : Sl} : stO a h (some s) = a s h := Eq.trans rfl rfl
def stepF (t : Tgt) (d : D) (a : Sc) : Sc := fun s h => stO a h (asgT t d s)
@[simp] theorem stepF_nm {i : Nat} {d : D} {a : Sc} {s : Sl} {h : List O} : stepF (.nm i) d a s h = a (s.set i (some d)) h := by simp [stepF]
@[simp] theorem stepF_tp {ts : List Tgt} {d : D} {a : Sc} {s : Sl} {h : List O} : stepF (.tp ts) d a s h = stO a h (asgT (.tp ts) d s) := Eq.trans rfl rfl
def stepP (ts : List Tgt) (d : List D) (a : Sc) : Sc := fun s h => stO a h (asgTs ts d s)
@[simp] theorem stepP_x {ts : List Tgt} {d : List D} {a : Sc} {s : Sl} {h : List O} : stepP ts d a s h = stO a h (asgTs ts d s) := Eq.trans rfl rfl
theorem nx_of {t : Tgt} {d : D} {a : Sc} {s : Sl} {h : List O} {Q : Sl → List O → Prop} (n : NX (stepF t d a s h) Q) : ∃ s', asgT t d s = some s' ∧ ∃ s2 h2, a s' h = .nx s2 h2 ∧ Q s2 h2 := by
  obtain ⟨s2, h2, e, q⟩ := n
  unfold stepF at e
  cases es : asgT t d s with
  | none => rw [es] at e; cases e
  | some s' => rw [es] at e; exact ⟨s', rfl, s2, h2, e, q⟩
theorem nxp_of {ts : List Tgt} {d : List D} {a : Sc} {s : Sl} {h : List O} {Q : Sl → List O → Prop} (n : NX (stepP ts d a s h) Q) : ∃ s', asgTs ts d s = some s' ∧ ∃ s2 h2, a s' h = .nx s2 h2 ∧ Q s2 h2 := by
  obtain ⟨s2, h2, e, q⟩ := n
  unfold stepP at e
  cases es : asgTs ts d s with
  | none => rw [es] at e; cases e
  | some s' => rw [es] at e; exact ⟨s', rfl, s2, h2, e, q⟩
theorem forF_N {ι : Type} {t : Tgt} {a k : Sc} {s : Sl} {h : List O} {φ : ι → D} {xs : List ι} (P : Out → Prop) (I : List ι → Sl → List O → Prop) (init : I [] s h) (hs : ∀ pre x post s h, xs = pre ++ x :: post → I pre s h → NX (stepF t (φ x) a s h) (I (pre ++ [x])))
    (fin : ∀ s2 h2, I xs s2 h2 → P (k s2 h2)) : P ((forF t a (xs.map φ) s h).andThen k) := forF_P P I init (fun pre x post s h e i => nx_of (hs pre x post s h e i)) fin
theorem forP_N {ι : Type} {ts : List Tgt} {a k : Sc} {s : Sl} {h : List O} {φ : ι → List D} {xs : List ι} (P : Out → Prop) (I : List ι → Sl → List O → Prop) (init : I [] s h) (hs : ∀ pre x post s h, xs = pre ++ x :: post → I pre s h → NX (stepP ts (φ x) a s h) (I (pre ++ [x])))
    (fin : ∀ s2 h2, I xs s2 h2 → P (k s2 h2)) : P ((forP (.tp ts) a (xs.map φ) s h).andThen k) := forP_P P I init (fun pre x post s h e i => nxp_of (hs pre x post s h e i)) fin
theorem forL_N {ι : Type} {t : Tgt} {a k : Sc} {s : Sl} {h : List O} {n : Nat} {φ : ι → D} {xs : List ι} (P : Out → Prop) (I : List ι → Sl → List O → Prop) (hl : xs.length ≤ 900000) (live : ∀ pre s h, I pre s h → h[n]? = some (.lst (xs.map φ))) (init : I [] s h)
    (hs : ∀ pre x post s h, xs = pre ++ x :: post → I pre s h → NX (stepF t (φ x) a s h) (I (pre ++ [x])))
    (fin : ∀ s2 h2, I xs s2 h2 → P (k s2 h2)) : P ((forL t a n whlFuel 0 s h).andThen k) := forL_P P I hl live init (fun pre x post s h e i => nx_of (hs pre x post s h e i)) fin
theorem compF_N {ι α β : Type} {t : Tgt} {T : AcB} {s : Sl} {h : List O} {φ : ι → D} {E : Sl → List O → Res α} {xs : List ι} {k : List α → List O → Res β} (P : Res β → Prop) (I : List ι → List α → List O → Prop) (hl : xs.length ≤ 1000000) (init : I [] [] h)
    (hs : ∀ pre x post acc h, xs = pre ++ x :: post → I pre acc h → YS (turnC T E (asgT t (φ x) s) h) fun y h2 => I (pre ++ [x]) (acc ++ [y]) h2)
    (fin : ∀ acc h2, I xs acc h2 → acc.length = xs.length → P (k acc h2)) : P ((compF t T E s (xs.map φ) [] h).bind k) := compF_P P I hl init (fun pre x post acc h e i => hs pre x post acc h e i) fin
end Lo
namespace Lo
open PySem PySem.Spec PyProof.Rows L2
section
variable {α β : Type} {s s1 : Sl} {h h1 : List O} {c : Nat} {fs : List (Str × D)} {d : D}
@[simp] theorem x_bind_ex {k : α → List O → Res β} : (Res.ex c fs h : Res α).bind k = .ex c fs h := Eq.trans rfl rfl
@[simp] theorem x_bindS_ex {k : α → List O → Out} : (Res.ex c fs h : Res α).bindS s k = .ex c fs s h := Eq.trans rfl rfl
@[simp] theorem x_andThen_ex {b : Sc} : (Out.ex c fs s h).andThen b = .ex c fs s h := Eq.trans rfl rfl
@[simp] theorem x_loop_ex {k : Sc} : (Out.ex c fs s h).loop k = .ex c fs s h := Eq.trans rfl rfl
@[simp] theorem x_out_ex : outR (.ex c fs s h) = .ex c fs h := Eq.trans rfl rfl
@[simp] theorem x_scRz : scRz c s h = .ex c [] s h := Eq.trans rfl rfl
def kRzI (c : Nat) (ns : List Str) (s : Sl) : List D → List O → Out := fun ds h => if ds.length = ns.length ∧ ns ≠ [] ∧ ns.length ≤ 100 ∧ ds.all okD = true then .ex c (ns.zip ds).reverse s h else .no
@[simp] theorem x_scRzI {ns : List Str} {L : AcL} : scRzI c ns L s h = (L s h).bindS s (kRzI c ns s) := Eq.trans rfl rfl
@[simp] theorem kRzI_1 {n : Str} (hd : okD d = true) : kRzI c [n] s [d] h = .ex c [(n, d)] s h := by simp [kRzI, hd]
def toldR (sub : Nat → Nat → Option Bool) (n : Nat) (kd : LKd) (ks : List Hdl) : Res D → Res D
  | .ok d h1 => match kd with
    | .drop => .ok .non h1
    | .ret => .ok d h1
  | .ex c fs h1 => resT (tryH sub c fs (List.replicate n none) h1 ks)
  | .no => .no
@[simp] theorem x_Told {sub : Nat → Nat → Option Bool} {n : Nat} {kd : LKd} {ks : List Hdl} {A : Ac} : acTold sub n kd ks A s h = toldR sub n kd ks (A s h) := by
  unfold acTold toldR
  cases A s h <;> rfl
@[simp] theorem toldR_d {sub : Nat → Nat → Option Bool} {n : Nat} {ks : List Hdl} : toldR sub n .drop ks (.ok d h) = .ok .non h := Eq.trans rfl rfl
@[simp] theorem toldR_r {sub : Nat → Nat → Option Bool} {n : Nat} {ks : List Hdl} : toldR sub n .ret ks (.ok d h) = .ok d h := Eq.trans rfl rfl
@[simp] theorem toldR_x {sub : Nat → Nat → Option Bool} {n : Nat} {kd : LKd} {ks : List Hdl} : toldR sub n kd ks (.ex c fs h) = resT (tryH sub c fs (List.replicate n none) h ks) := Eq.trans rfl rfl
theorem call_ex {f : FnD} {ds : List D} {h' : List O} (low : lowDs 0 ds = true) (e : f ds [] = .ex c fs h') (fl : (fs.all fun p => lowD 0 p.2) = true) : callM f ds h = .ex c fs h := by
  unfold callM
  rw [if_pos low, e]
  have : (fs.mapM fun (kv : Str × D) => (setD h' 0 kv.2).map fun d => (kv.1, d)) = some fs := mapM_id fun x hx => by
    rw [setD_low (List.all_eq_true.mp fl x hx)]; rfl
  simp only [setR, this]
  rfl
theorem call_okL {f : FnD} {ds : List D} {d' : D} (low : lowDs 0 ds = true) (e : callM f ds [] = .ok d' []) : callM f ds h = .ok d' h := by
  unfold callM at e ⊢
  rw [if_pos low] at e ⊢
  cases q : f ds [] with
  | no => rw [q] at e; cases e
  | ok d h' =>
    rw [q] at e
    simp only [setR] at e ⊢
    cases e1 : setD h' 0 d with
    | none => rw [e1] at e; cases e
    | some d1 =>
      cases e2 : setH h' 0 with
      | none => rw [e1, e2] at e; cases e
      | some h2 =>
        rw [e1, e2] at e
        simp only [Option.getD] at e ⊢
        cases e
        rfl
  | ex c fs h' =>
    rw [q] at e
    simp only [setR] at e
    split at e <;> cases e
theorem call_exL {f : FnD} {ds : List D} (low : lowDs 0 ds = true) (e : callM f ds [] = .ex c fs []) : callM f ds h = .ex c fs h := by
  unfold callM at e ⊢
  rw [if_pos low] at e ⊢
  cases q : f ds [] with
  | no => rw [q] at e; cases e
  | ok d h' =>
    rw [q] at e
    simp only [setR] at e
    split at e <;> cases e
  | ex c1 fs1 h' =>
    rw [q] at e
    simp only [setR] at e ⊢
    split at e
    · rename_i fs2 h2 e1 e2
      cases e
      first | rfl | (rw [e1, e2]; rfl)
    · cases e
def okR : Res D → Bool
  | .ok _ [] => true
  | _ => false
theorem okR_of {r : Res D} (h : okR r = true) : ∃ d, r = .ok d [] := by
  cases r with
  | ok d h1 =>
    cases h1 with
    | nil => exact ⟨d, rfl⟩
    | cons _ _ => cases h
  | _ => cases h
theorem v_mul_rep {lv : Bool} {x : D} {n : Nat} (hn : n ≤ 1000) : mulP lv (.lst [x]) (.int (n : Int)) h = some (mkL lv (List.replicate n x) h) := by
  have e : (-(2 ^ 63) ≤ (n : Int) ∧ (n : Int) < 2 ^ 63 ∧ ([x] : List D).length * ((n : Int)).toNat ≤ sizeLine) := by
    refine ⟨Int.le_trans (by decide) (Int.natCast_nonneg n), Int.lt_of_le_of_lt (b := 1000) (by omega) (by decide), ?_⟩
    rw [Int.toNat_natCast]
    exact Nat.le_trans (show 1 * n ≤ 1000 by omega) (by decide)
  simp only [mulP, mulL, v_lstW_lst]
  rw [if_pos e, Int.toNat_natCast]
  have : ∀ m, (List.replicate m ([x] : List D)).flatten = List.replicate m x := fun m => by
    induction m with
    | zero => rfl
    | succ m ih => simp only [List.replicate_succ, List.flatten_cons, ih]; rfl
  rw [this]
theorem v_setI {n k : Nat} {xs : List D} {y : D} (hn : h[n]? = some (.lst xs)) (hk : k < xs.length) : setI (.loc n) (.int (k : Int)) y h = some (h.set n (.lst (xs.set k y))) := by
  have : ixN xs.length (k : Int) = some k := by
    unfold ixN
    rw [if_pos (Int.natCast_nonneg k), if_pos (by omega)]
    simp
  simp only [setI, hn, this, Option.map_some]
theorem v_pick {xs : List D} {v : Int} (h0 : 0 ≤ v) (h1 : v < xs.length) : itemP (.lst xs) (.int v) h = some (xs.getD v.toNat .non, h) := by
  obtain ⟨n, rfl⟩ := Int.eq_ofNat_of_zero_le h0
  have hn : n < xs.length := by omega
  rw [v_item_lst, v_ix_nat]
  simp [hn]
end
end Lo
namespace Lp
open PySem L2 Lo
def n_is_number : List Str := ["value", "smallest", "largest"]
def b_is_number (E : PEnv) : Sc := (scSeq (scRet (acAnd (acN (isiO E.ow) (alCons (acV 0) (alCons (acC (.ty "int")) alNil))) (acAnd (acNot (acN (isiO E.ow) (alCons (acV 0) (alCons (acC (.ty "bool")) alNil)))) (acCh leP leP (acV 1) (acV 0) (acV 2))))) scNx)
def n_is_text : List Str := ["value", "signs", "sign"]
def b_is_text (E : PEnv) : Sc := (scSeq (scIf (tbOr (tbNot (tbV (acN (isiO E.ow) (alCons (acV 0) (alCons (acC (.ty "str")) alNil))))) (tbNot (tbV (acCh leP leP (acC (.int 1)) (acN (lenO E.ow) (alCons (acV 0) alNil)) (acC (.int 8)))))) (scSeq (scRet (acC (.bl false))) scNx) scNx) (scSeq (scRet (acN allP (alCons (acLc false (acIt (acV 0)) (.nm 2) tbYes (ac2 inP (acV 2) (acV 1)) [2]) alNil))) scNx))
def n_are_names : List Str := ["row", "one", "other", "name"]
def b_are_names (E : PEnv) : Sc := (scSeq (scIf (tbOr (tbNot (tbV (acCh leP leP (acC (.int 1)) (acN (lenO E.ow) (alCons (acV 0) alNil)) (acC (.int 6))))) (tbNot (tbV (acN allP (alCons (acLc false (acIt (acV 0)) (.nm 3) tbYes (acCall (E.f "is_text") 2 (alCons (acV 3) (alCons (acC (.str "abcdefghijklmnopqrstuvwxyz")) alNil))) [3]) alNil))))) (scSeq (scRet (acC (.bl false))) scNx) scNx) (scSeq (scRet (acN allP (alCons (acLc false (acZip (acV 0) (acSl false (acV 0) (aoSome (acC (.int 1))) aoNone)) (.tp [(.nm 1), (.nm 2)]) tbYes (ac2 ltP (acV 1) (acV 2)) [1, 2]) alNil))) scNx))
def n_are_plates : List Str := ["row", "count", "plate"]
def b_are_plates (E : PEnv) : Sc := (scSeq (scIf (tbNot (tbV (acCh leP leP (acV 1) (acN (lenO E.ow) (alCons (acV 0) alNil)) (acC (.int 6))))) (scSeq (scRet (acC (.bl false))) scNx) scNx) (scSeq (scRet (acN allP (alCons (acLc false (acIt (acV 0)) (.nm 2) tbYes (acOr (ac2 (eqO E.ow) (acV 2) (acC (.str ""))) (acCall (E.f "is_text") 2 (alCons (acV 2) (alCons (ac2 (addP false) (acC (.str "abcdefghijklmnopqrstuvwxyz")) (acC (.str "."))) alNil)))) [2]) alNil))) scNx))
def n_is_manner : List Str := ["value", "names", "boxes", "box"]
def b_is_manner (E : PEnv) : Sc := (scSeq (scIf (tbNot (tbV (acN (isiO E.ow) (alCons (acV 0) (alCons (acC (.ty "tuple")) alNil))))) (scSeq (scRet (ac2 inP (acV 0) (acN tupP (alCons (acC (.str "back")) (alCons (acC (.str "keep")) alNil))))) scNx) scNx) (scSeq (scIf (tbV (ac2 (neO E.ow) (acN (lenO E.ow) (alCons (acV 0) alNil)) (acV 1))) (scSeq (scRet (acC (.bl false))) scNx) scNx) (scSeq (scRet (acN allP (alCons (acLc false (acIt (acV 0)) (.nm 3) tbYes (acOr (ac2 isP (acV 3) (acC .non)) (acCall (E.f "is_number") 3 (alCons (acV 3) (alCons (acC (.int 0)) (alCons (ac2 subP (acV 2) (acC (.int 1))) alNil))))) [3]) alNil))) scNx)))
def n_are_manners : List Str := ["row", "names", "boxes", "name"]
def b_are_manners (E : PEnv) : Sc := (scSeq (scIf (tbV (ac2 (neO E.ow) (acN tupleP (alCons (acN (sortedP false) (alCons (acV 0) alNil)) alNil)) (acV 1))) (scSeq (scRet (acC (.bl false))) scNx) scNx) (scSeq (scRet (acN allP (alCons (acLc false (acIt (acV 1)) (.nm 3) tbYes (acCall (E.f "is_manner") 3 (alCons (ac2 itemP (acV 0) (acV 3)) (alCons (acN (lenO E.ow) (alCons (acV 1) alNil)) (alCons (acV 2) alNil)))) [3]) alNil))) scNx))
def n_House___init__ : List Str := ["self", "names", "plates", "manners", "name"]
def b_House___init__ (E : PEnv) : Sc := (scSeq (scIf (tbNot (tbV (acCall (E.f "are_names") 1 (alCons (acV 1) alNil)))) (scSeq (scRzI 21 ["part"] (alCons (acC (.str "names")) alNil)) scNx) scNx) (scSeq (scIf (tbNot (tbV (acCall (E.f "are_plates") 2 (alCons (acV 2) (alCons (acN (lenO E.ow) (alCons (acV 1) alNil)) alNil))))) (scSeq (scRzI 21 ["part"] (alCons (acC (.str "plates")) alNil)) scNx) scNx) (scSeq (scIf (tbNot (tbV (acCall (E.f "are_manners") 3 (alCons (acV 3) (alCons (acV 1) (alCons (acN (lenO E.ow) (alCons (acV 2) alNil)) alNil)))))) (scSeq (scRzI 21 ["part"] (alCons (acC (.str "manners")) alNil)) scNx) scNx) (scSeq (scAttr (E.a "folk") "folk" (acV 0) (acV 1)) (scSeq (scAttr (E.a "signs") "signs" (acV 0) (acV 2)) (scSeq (scAttr (E.a "ways") "ways" (acV 0) (acDc false (acIt (acV 1)) (.nm 4) tbYes (acV 4) (ac2 itemP (acV 3) (acV 4)) [4])) scNx))))))
def n_House_names : List Str := ["self"]
def b_House_names (E : PEnv) : Sc := (scSeq (scRet (acAttr (E.a "folk") "folk" (acV 0))) scNx)
def n_House_plates : List Str := ["self"]
def b_House_plates (E : PEnv) : Sc := (scSeq (scRet (acAttr (E.a "signs") "signs" (acV 0))) scNx)
def n_House_manners : List Str := ["self"]
def b_House_manners (E : PEnv) : Sc := (scSeq (scRet (acN (dictP false) (alCons (acAttr (E.a "ways") "ways" (acV 0)) alNil))) scNx)
def n_House___len__ : List Str := ["self"]
def b_House___len__ (E : PEnv) : Sc := (scSeq (scRet (acN (lenO E.ow) (alCons (acAttr (E.a "signs") "signs" (acV 0)) alNil))) scNx)
def n_House___eq__ : List Str := ["self", "other"]
def b_House___eq__ (E : PEnv) : Sc := (scSeq (scIf (tbOr (tbNot (tbV (acN (isiO E.ow) (alCons (acV 1) (alCons (acC (.cl 0)) alNil))))) (tbOr (tbV (ac2 (neO E.ow) (acAttr (E.a "folk") "folk" (acV 0)) (acAttr (E.a "names") "names" (acV 1)))) (tbV (ac2 (neO E.ow) (acAttr (E.a "signs") "signs" (acV 0)) (acAttr (E.a "plates") "plates" (acV 1)))))) (scSeq (scRet (acC (.bl false))) scNx) scNx) (scSeq (scRet (ac2 (eqO E.ow) (acAttr (E.a "ways") "ways" (acV 0)) (acAttr (E.a "manners") "manners" (acV 1)))) scNx))
def n_checksum : List Str := ["values", "found", "value"]
def b_checksum (E : PEnv) : Sc := (scSeq (scSet (.nm 1) (acC (.int 9))) (scSeq (scFor (acIt (acV 0)) (.nm 2) (scSeq (scSet (.nm 1) (ac2 modP (acN intP1 (alCons (ac2 (addP false) (ac2 (mulP false) (acC (.int 21)) (acV 1)) (acV 2)) alNil)) (acC (.int 241)))) scNx)) (scSeq (scRet (acV 1)) scNx)))
def n_text_items : List Str := ["text", "sign"]
def b_text_items (E : PEnv) : Sc := (scSeq (scRet (acN (lstP false) (alCons (acN (lenO E.ow) (alCons (acV 0) alNil)) (alStar (acLc false (acIt (acV 0)) (.nm 1) tbYes (acM tbIndex (acC (.str ".abcdefghijklmnopqrstuvwxyz")) (alCons (acV 1) alNil)) [1]) alNil)))) scNx)
def n_manner_items : List Str := ["manner", "box"]
def b_manner_items (E : PEnv) : Sc := (scSeq (scIf (tbV (acN (isiO E.ow) (alCons (acV 0) (alCons (acC (.ty "tuple")) alNil)))) (scSeq (scRet (acN (lstP false) (alCons (acC (.int 2)) (alStar (acLc false (acIt (acV 0)) (.nm 1) tbYes (acIf (tbV (ac2 isP (acV 1) (acC .non))) (acC (.int 6)) (acV 1)) [1]) alNil)))) scNx) scNx) (scSeq (scRet (acN (lstP false) (alCons (acIf (tbV (ac2 (eqO E.ow) (acV 0) (acC (.str "back")))) (acC (.int 0)) (acC (.int 1))) alNil))) scNx))
def n_encode_house : List Str := ["house", "found", "plate", "name", "manner"]
def b_encode_house (E : PEnv) : Sc := (scSeq (scSet (.nm 1) (acN (lstP true) (alCons (acC (.int 66)) (alCons (acN (lenO E.ow) (alCons (acV 0) alNil)) alNil)))) (scSeq (scFor (acIt (acAttr (E.a "plates") "plates" (acV 0))) (.nm 2) (scSeq (scExpr (acM tbExtend (acV 1) (alCons (acCall (E.f "text_items") 1 (alCons (acV 2) alNil)) alNil))) scNx)) (scSeq (scExpr (acM tbAppend (acV 1) (alCons (acN (lenO E.ow) (alCons (acAttr (E.a "names") "names" (acV 0)) alNil)) alNil))) (scSeq (scFor (acIt (acAttr (E.a "names") "names" (acV 0))) (.nm 3) (scSeq (scExpr (acM tbExtend (acV 1) (alCons (acCall (E.f "text_items") 1 (alCons (acV 3) alNil)) alNil))) scNx)) (scSeq (scFor (acDic valsS (acAttr (E.a "manners") "manners" (acV 0))) (.nm 4) (scSeq (scExpr (acM tbExtend (acV 1) (alCons (acCall (E.f "manner_items") 1 (alCons (acV 4) alNil)) alNil))) scNx)) (scSeq (scRet (acN (lstP false) (alStar (acV 1) (alCons (acCall (E.f "checksum") 1 (alCons (acV 1) alNil)) alNil)))) scNx))))))
def n_Reader___init__ : List Str := ["self", "values"]
def b_Reader___init__ (E : PEnv) : Sc := (scSeq (scAttr (E.a "data") "data" (acV 0) (acV 1)) (scSeq (scAttr (E.a "spot") "spot" (acV 0) (acC (.int 0))) scNx))
def n_Reader_item : List Str := ["self", "low", "high"]
def b_Reader_item (E : PEnv) : Sc := (scSeq (scIf (tbOr (tbV (ac2 geP (acAttr (E.a "spot") "spot" (acV 0)) (acN (lenO E.ow) (alCons (acAttr (E.a "data") "data" (acV 0)) alNil)))) (tbNot (tbV (acCall (E.f "is_number") 3 (alCons (ac2 itemP (acAttr (E.a "data") "data" (acV 0)) (acAttr (E.a "spot") "spot" (acV 0))) (alCons (acV 1) (alCons (acV 2) alNil))))))) (scSeq (scRzI 43 ["offset"] (alCons (acAttr (E.a "spot") "spot" (acV 0)) alNil)) scNx) scNx) (scSeq (scAugA (E.a "spot") "spot" (intP yes2 fun i j => .int (i + j)) (acV 0) (acC (.int 1))) (scSeq (scRet (ac2 itemP (acAttr (E.a "data") "data" (acV 0)) (ac2 subP (acAttr (E.a "spot") "spot" (acV 0)) (acC (.int 1))))) scNx)))
def n_Reader_read_text : List Str := ["self", "least", "count", "turn"]
def b_Reader_read_text (E : PEnv) : Sc := (scSeq (scSet (.nm 2) (acMet false 1 "item" (E.m "item") 2 (acV 0) (alCons (acV 1) (alCons (acC (.int 8)) alNil)))) (scSeq (scRet (acM tbJoin (acC (.str "")) (alCons (acLc false (acRng1 (acV 2)) (.nm 3) tbYes (ac2 itemP (acC (.str ".abcdefghijklmnopqrstuvwxyz")) (acMet false 1 "item" (E.m "item") 2 (acV 0) (alCons (acV 1) (alCons (ac2 subP (acN (lenO E.ow) (alCons (acC (.str ".abcdefghijklmnopqrstuvwxyz")) alNil)) (acC (.int 1))) alNil)))) [3]) alNil))) scNx))
def n_Reader_read_manner : List Str := ["self", "count", "code", "boxes", "turn", "box"]
def b_Reader_read_manner (E : PEnv) : Sc := (scSeq (scSet (.nm 2) (acMet false 1 "item" (E.m "item") 2 (acV 0) (alCons (acC (.int 0)) (alCons (acC (.int 2)) alNil)))) (scSeq (scIf (tbV (ac2 (neO E.ow) (acV 2) (acC (.int 2)))) (scSeq (scRet (acIf (tbV (ac2 (eqO E.ow) (acV 2) (acC (.int 0)))) (acC (.str "back")) (acC (.str "keep")))) scNx) scNx) (scSeq (scSet (.nm 3) (acLc false (acRng1 (acV 1)) (.nm 4) tbYes (acMet false 1 "item" (E.m "item") 2 (acV 0) (alCons (acC (.int 0)) (alCons (acC (.int 6)) alNil))) [4])) (scSeq (scRet (acN tupleP (alCons (acLc false (acIt (acV 3)) (.nm 5) tbYes (acIf (tbV (ac2 (eqO E.ow) (acV 5) (acC (.int 6)))) (acC .non) (acV 5)) [5]) alNil))) scNx))))
def n_Reader_finish : List Str := ["self", "check"]
def b_Reader_finish (E : PEnv) : Sc := (scSeq (scSet (.nm 1) (acCall (E.f "checksum") 1 (alCons (acSl false (acAttr (E.a "data") "data" (acV 0)) aoNone (aoSome (acAttr (E.a "spot") "spot" (acV 0)))) alNil))) (scSeq (scExpr (acMet false 1 "item" (E.m "item") 2 (acV 0) (alCons (acV 1) (alCons (acV 1) alNil)))) (scSeq (scIf (tbV (ac2 ltP (acAttr (E.a "spot") "spot" (acV 0)) (acN (lenO E.ow) (alCons (acAttr (E.a "data") "data" (acV 0)) alNil)))) (scSeq (scRzI 43 ["offset"] (alCons (acAttr (E.a "spot") "spot" (acV 0)) alNil)) scNx) scNx) scNx)))
def n_decode_house : List Str := ["values", "reader", "plates", "names", "manners", "turn", "name"]
def b_decode_house (E : PEnv) : Sc := (scSeq (scSet (.nm 1) (acRaw (initF true 1 (E.i "Reader")) 1 (alCons (acV 0) alNil))) (scSeq (scExpr (acMet false 1 "item" (E.m "item") 2 (acV 1) (alCons (acC (.int 66)) (alCons (acC (.int 66)) alNil)))) (scSeq (scSet (.nm 2) (acLc false (acRng1 (acMet false 1 "item" (E.m "item") 2 (acV 1) (alCons (acC (.int 1)) (alCons (acC (.int 6)) alNil)))) (.nm 5) tbYes (acMet false 1 "read_text" (E.m "read_text") 1 (acV 1) (alCons (acC (.int 0)) alNil)) [5])) (scSeq (scSet (.nm 3) (acLc false (acRng1 (acMet false 1 "item" (E.m "item") 2 (acV 1) (alCons (acC (.int 1)) (alCons (acC (.int 6)) alNil)))) (.nm 5) tbYes (acMet false 1 "read_text" (E.m "read_text") 1 (acV 1) (alCons (acC (.int 1)) alNil)) [5])) (scSeq (scSet (.nm 4) (acLc false (acIt (acV 3)) (.nm 6) tbYes (acMet false 1 "read_manner" (E.m "read_manner") 1 (acV 1) (alCons (acN (lenO E.ow) (alCons (acV 3) alNil)) alNil)) [6])) (scSeq (scExpr (acMet false 1 "finish" (E.m "finish") 0 (acV 1) alNil)) (scSeq (scRet (acCall (initF false 0 (E.i "House")) 3 (alCons (acN tupleP (alCons (acV 3) alNil)) (alCons (acN tupleP (alCons (acV 2) alNil)) (alCons (acDZ false (acV 3) (acV 4)) alNil))))) scNx)))))))
def n__law_taken : List Str := ["_law_row", "_law_many", "_law_cell", "_law_found"]
def b__law_taken (E : PEnv) : Sc := (scSeq (scIf (tbV (ac2 gtP (ac2 itemP (acV 0) (acC (.int 3))) (acC (.int 0)))) (scSeq (scSet (.nm 3) (ac2 modP (acN intP1 (alCons (ac2 itemP (acV 0) (acC (.int 3))) alNil)) (acV 1))) (scSeq (scItem (acV 0) (acC (.int 3)) (ac2 fdivP (ac2 itemP (acV 0) (acC (.int 3))) (acV 1))) (scSeq (scRet (acV 3)) scNx))) scNx) (scSeq (scItem (acV 0) (acC (.int 1)) (ac2 (addP false) (ac2 itemP (acV 0) (acC (.int 1))) (acC (.int 1)))) (scSeq (scIf (tbV (ac2 gtP (ac2 itemP (acV 0) (acC (.int 1))) (acN (lenO E.ow) (alCons (ac2 itemP (acV 0) (acC (.int 0))) alNil)))) (scSeq (scItem (acV 0) (acC (.int 2)) (ac2 modP (acN intP1 (alCons (ac2 (addP false) (ac2 (mulP false) (ac2 itemP (acV 0) (acC (.int 2))) (acC (.int 48271))) (acC (.int 11))) alNil)) (acC (.int 2147483647)))) (scSeq (scRet (ac2 modP (acN intP1 (alCons (ac2 fdivP (ac2 itemP (acV 0) (acC (.int 2))) (acC (.int 7))) alNil)) (acV 1))) scNx)) scNx) (scSeq (scSet (.nm 2) (ac2 itemP (ac2 itemP (acV 0) (acC (.int 0))) (ac2 subP (ac2 itemP (acV 0) (acC (.int 1))) (acC (.int 1))))) (scSeq (scItem (acV 0) (acC (.int 2)) (ac2 modP (acN intP1 (alCons (ac2 (addP false) (ac2 (addP false) (ac2 (mulP false) (ac2 itemP (acV 0) (acC (.int 2))) (acC (.int 48271))) (acV 2)) (acC (.int 11))) alNil)) (acC (.int 2147483647)))) (scSeq (scIf (tbV (ac2 geP (acV 2) (ac2 powP (acC (.int 10)) (acC (.int 18))))) (scSeq (scItem (acV 0) (acC (.int 3)) (ac2 fdivP (acV 2) (acV 1))) scNx) scNx) (scSeq (scRet (ac2 modP (acN intP1 (alCons (acV 2) alNil)) (acV 1))) scNx)))))))
def n__law_house : List Str := ["_law_row", "_law_names", "_law_many", "_law_plates", "_law_manners", "_law_k", "_law_name", "_law_some", "_law_pick", "_law_guess", "_law_one", "_law_box"]
def b__law_house (E : PEnv) : Sc := (scSeq (scSet (.nm 1) (acSl false (acN tupP (alCons (acC (.str "ant")) (alCons (acC (.str "bee")) (alCons (acC (.str "cat")) alNil)))) aoNone (aoSome (ac2 (addP false) (acC (.int 1)) (acCall (E.f "_law_taken") 2 (alCons (acV 0) (alCons (acC (.int 3)) alNil))))))) (scSeq (scSet (.tp [(.nm 2), (.nm 3), (.nm 4)]) (acN tupP (alCons (ac2 (addP false) (acN (lenO E.ow) (alCons (acV 1) alNil)) (acCall (E.f "_law_taken") 2 (alCons (acV 0) (alCons (acC (.int 2)) alNil)))) (alCons (acN (lstP true) alNil) (alCons (fun _ h => Res.of (some (mkD true [] h))) alNil))))) (scSeq (scFor (acRng1 (acV 2)) (.nm 5) (scSeq (scSet (.nm 7) (acN (lstP false) (alCons (acC (.str "")) (alCons (acC (.str "")) (alCons (acC (.str "")) (alCons (acC (.str "ant")) (alCons (acC (.str "b..")) (alCons (acC (.str "...")) (alCons (acC (.str ".a.")) (alCons (acC (.str "cat")) (alCons (acC (.str "")) (alCons (acC (.str "c.t")) alNil)))))))))))) (scSeq (scExpr (acM tbAppend (acV 3) (alCons (acIf (tbV (ac2 (eqO E.ow) (acCall (E.f "_law_taken") 2 (alCons (acV 0) (alCons (acC (.int 2)) alNil))) (acC (.int 0)))) (ac2 itemP (acV 7) (acCall (E.f "_law_taken") 2 (alCons (acV 0) (alCons (acC (.int 10)) alNil)))) (acC (.str ""))) alNil))) scNx))) (scSeq (scFor (acIt (acV 1)) (.nm 6) (scSeq (scSet (.nm 8) (acCall (E.f "_law_taken") 2 (alCons (acV 0) (alCons (acC (.int 6)) alNil)))) (scSeq (scSet (.nm 9) (acN tupleP (alCons (acLc false (acIt (acV 1)) (.nm 10) tbYes (ac2 itemP (acN (lstP false) (alCons (acC .non) (alCons (acC (.int 0)) (alCons (acC (.int 1)) (alCons (acC (.int 2)) (alCons (acC (.int 3)) (alCons (acC (.int 1)) alNil))))))) (acCall (E.f "_law_taken") 2 (alCons (acV 0) (alCons (acC (.int 6)) alNil)))) [10]) alNil))) (scSeq (scSet (.nm 9) (acN tupleP (alCons (acLc false (acIt (acV 9)) (.nm 11) tbYes (acIf (tbOr (tbV (ac2 isP (acV 11) (acC .non))) (tbV (ac2 ltP (acV 11) (acV 2)))) (acV 11) (acC (.int 0))) [11]) alNil))) (scSeq (scItem (acV 4) (acV 6) (acIf (tbV (ac2 (eqO E.ow) (acV 8) (acC (.int 0)))) (acC (.str "back")) (acIf (tbV (ac2 (eqO E.ow) (acV 8) (acC (.int 1)))) (acC (.str "keep")) (acV 9)))) scNx))))) (scSeq (scRet (acCall (initF false 0 (E.i "House")) 3 (alCons (acV 1) (alCons (acN tupleP (alCons (acV 3) alNil)) (alCons (acV 4) alNil))))) scNx)))))
def n__law_checked : List Str := ["_law_items", "_law_check", "_law_item"]
def b__law_checked (E : PEnv) : Sc := (scSeq (scSet (.nm 1) (acC (.int 9))) (scSeq (scFor (acIt (acV 0)) (.nm 2) (scSeq (scSet (.nm 1) (ac2 modP (acN intP1 (alCons (ac2 (addP false) (ac2 (mulP false) (acC (.int 21)) (acV 1)) (acV 2)) alNil)) (acC (.int 241)))) scNx)) (scSeq (scRet (ac2 (addP false) (acV 0) (acN (lstP false) (alCons (acV 1) alNil)))) scNx)))
def n__law_text_items : List Str := ["_law_text", "_law_sign"]
def b__law_text_items (E : PEnv) : Sc := (scSeq (scRet (ac2 (addP false) (acN (lstP false) (alCons (acN (lenO E.ow) (alCons (acV 0) alNil)) alNil)) (acLc false (acIt (acV 0)) (.nm 1) tbYes (acM tbIndex (acC (.str ".abcdefghijklmnopqrstuvwxyz")) (alCons (acV 1) alNil)) [1]))) scNx)
def n_law : List Str := ["_law_script", "_law_row", "_law_turn", "_law_house_here", "_law_items", "_law_manners", "_law_plate", "_law_name", "_law_box"]
def b_law (E : PEnv) : Sc := (scSeq (scSet (.nm 1) (acN (lstP true) (alCons (acV 0) (alCons (acC (.int 0)) (alCons (acC (.int 0)) (alCons (acC (.int 0)) alNil)))))) (scSeq (scFor (acRng1 (acC (.int 8))) (.nm 2) (scSeq (scSet (.nm 3) (acCall (E.f "_law_house") 1 (alCons (acV 1) alNil))) (scSeq (scPar [.nm 4, .nm 5] (alCons (acN (lstP true) (alCons (acC (.int 66)) (alCons (acN (lenO E.ow) (alCons (acV 3) alNil)) alNil))) (alCons (acAttr (E.a "manners") "manners" (acV 3)) alNil))) (scSeq (scFor (acIt (acAttr (E.a "plates") "plates" (acV 3))) (.nm 6) (scSeq (scSet (.nm 4) (ac2 (addP true) (acV 4) (acCall (E.f "_law_text_items") 1 (alCons (acV 6) alNil)))) scNx)) (scSeq (scExpr (acM tbAppend (acV 4) (alCons (acN (lenO E.ow) (alCons (acAttr (E.a "names") "names" (acV 3)) alNil)) alNil))) (scSeq (scFor (acIt (acAttr (E.a "names") "names" (acV 3))) (.nm 7) (scSeq (scSet (.nm 4) (ac2 (addP true) (acV 4) (acCall (E.f "_law_text_items") 1 (alCons (acV 7) alNil)))) scNx)) (scSeq (scFor (acIt (acAttr (E.a "names") "names" (acV 3))) (.nm 7) (scSeq (scIf (tbV (ac2 inP (ac2 itemP (acV 5) (acV 7)) (acN tupP (alCons (acC (.str "back")) (alCons (acC (.str "keep")) alNil))))) (scSeq (scExpr (acM tbAppend (acV 4) (alCons (acN intP1 (alCons (ac2 (eqO E.ow) (ac2 itemP (acV 5) (acV 7)) (acC (.str "keep"))) alNil)) alNil))) scNx) (scSeq (scSet (.nm 4) (ac2 (addP true) (ac2 (addP false) (acV 4) (acN (lstP false) (alCons (acC (.int 2)) alNil))) (acLc false (acIt (ac2 itemP (acV 5) (acV 7))) (.nm 8) tbYes (acIf (tbV (ac2 isP (acV 8) (acC .non))) (acC (.int 6)) (acV 8)) [8]))) scNx)) scNx)) (scSeq (scIf (tbOr (tbV (ac2 (neO E.ow) (acCall (E.f "encode_house") 1 (alCons (acV 3) alNil)) (acCall (E.f "_law_checked") 1 (alCons (acV 4) alNil)))) (tbV (ac2 (neO E.ow) (acCall (E.f "decode_house") 1 (alCons (acCall (E.f "_law_checked") 1 (alCons (acV 4) alNil)) alNil)) (acV 3)))) (scSeq (scRet (acC (.bl false))) scNx) scNx) scNx)))))))) (scSeq (scRet (acC (.bl true))) scNx)))
end Lp
namespace Lp
open PySem L2 Lo
inductive Mn where
  | back
  | keep
  | guess (g : List (Option Int))
def oD : Option Int → D
  | none => .non
  | some i => .int i
def Mn.d : Mn → D
  | .back => .str "back"
  | .keep => .str "keep"
  | .guess g => .tup (g.map oD)
structure Hs where
  names : List Str
  plates : List Str
  ways : List Mn
def Hs.dic (H : Hs) : List (Key × D) := (H.names.zip H.ways).map fun p => (.inr p.1, p.2.d)
def Hs.d (H : Hs) : D := .obj 0 [.tup (H.names.map .str), .tup (H.plates.map .str), .dic H.dic]
def abc : Str := "abcdefghijklmnopqrstuvwxyz"
def abcp : Str := "abcdefghijklmnopqrstuvwxyz."
def isText (x z : Str) : Bool := decide (1 ≤ x.length) && decide (x.length ≤ 8) && x.cps.toList.all fun c => decide (c ∈ z.cps.toList)
def mnOk (n m : Nat) : Mn → Bool
  | .guess g => decide (g.length = n) && g.all fun o => match o with
    | some i => decide (0 ≤ i) && decide (i < m)
    | none => true
  | _ => true
structure Hs.Ok (H : Hs) : Prop where
  n1 : 1 ≤ H.names.length
  n6 : H.names.length ≤ 6
  asc : H.names.Pairwise fun a b => a.cps.toList < b.cps.toList
  txt : ∀ x ∈ H.names, isText x abc = true
  p1 : H.names.length ≤ H.plates.length
  p6 : H.plates.length ≤ 6
  pl : ∀ p ∈ H.plates, p = "" ∨ isText p abcp = true
  wl : H.ways.length = H.names.length
  wo : ∀ m ∈ H.ways, mnOk H.names.length H.plates.length m = true
section
variable {E : PEnv} {h : List O}
theorem r_is_number {v lo hi : Int} : bodyF n_is_number (b_is_number E) [.int v, .int lo, .int hi] h = .ok (.bl (decide (lo ≤ v) && decide (v ≤ hi))) h := by
  simp [bodyF, b_is_number, startD, n_is_number, x_V]
  by_cases h1 : lo ≤ v <;> simp [h1]
theorem r_is_text {x z : Str} (hx : x.length ≤ 1000000) : bodyF n_is_text (b_is_text E) [.str x, .str z] h = .ok (.bl (isText x z)) h := by
  simp [bodyF, b_is_text, startD, n_is_text, x_V, v_len_str hx]
  by_cases h1 : (1 : Int) ≤ (x.length : Int)
  · by_cases h2 : (x.length : Int) ≤ 8
    · simp [h1, h2, x_V]
      rw [charsD_map, compF_map (g := fun c => D.bl (decide (c ∈ z.cps.toList))) (by simpa [Str.length] using hx) (fun c _ => by simp [x_V])]
      have h1' : 1 ≤ x.length := by omega
      have h2' : x.length ≤ 8 := by omega
      simp [w_all, isText, h1', h2']
    · have h2' : ¬ x.length ≤ 8 := by omega
      simp [h1, h2, isText, h2']
  · have h1' : x.length = 0 := by omega
    simp [h1, isText, h1']
end
def S_is_number (f : FnD) : Prop := ∀ h v lo hi, callM f [.int v, .int lo, .int hi] h = .ok (.bl (decide (lo ≤ v) && decide (v ≤ hi))) h
def S_is_text (f : FnD) : Prop := ∀ h x z, x.length ≤ 1000000 → callM f [.str x, .str z] h = .ok (.bl (isText x z)) h
def S_are_names (f : FnD) : Prop := ∀ h (H : Hs), H.Ok → callM f [.tup (H.names.map .str)] h = .ok (.bl true) h
def S_are_plates (f : FnD) : Prop := ∀ h (H : Hs), H.Ok → callM f [.tup (H.plates.map .str), .int H.names.length] h = .ok (.bl true) h
def S_is_manner (f : FnD) : Prop := ∀ h (m : Mn) (n b : Nat), mnOk n b m = true → n ≤ 6 → callM f [m.d, .int n, .int b] h = .ok (.bl true) h
theorem low_ints {m : Nat} : ∀ {xs : List Int}, lowDs m (xs.map D.int) = true
  | [] => rfl
  | x :: r => by simp [lowDs, lowD, low_ints (xs := r)]
theorem low_strs {m : Nat} : ∀ {xs : List Str}, lowDs m (xs.map D.str) = true
  | [] => rfl
  | x :: r => by simp [lowDs, lowD, low_strs (xs := r)]
theorem low_opts {m : Nat} : ∀ {xs : List (Option Int)}, lowDs m (xs.map oD) = true
  | [] => rfl
  | none :: r => by simp [lowDs, lowD, oD, low_opts (xs := r)]
  | some _ :: r => by simp [lowDs, lowD, oD, low_opts (xs := r)]
theorem low_mn {k : Nat} {m : Mn} : lowD k m.d = true := by
  cases m <;> simp [Mn.d, lowD, low_opts]
section
variable {E : PEnv}
theorem k_is_number : S_is_number (bodyF n_is_number (b_is_number E)) := fun h v lo hi => call_low rfl r_is_number rfl
theorem k_is_text : S_is_text (bodyF n_is_text (b_is_text E)) := fun h x z hx => call_low rfl (r_is_text hx) rfl
theorem txt_len {x z : Str} (hx : isText x z = true) : x.length ≤ 8 := by
  simp only [isText, Bool.and_eq_true, decide_eq_true_eq] at hx
  exact hx.1.2
theorem txt_ok {x z : Str} (hz : PyData.strOk z = true) (hx : isText x z = true) : PyData.strOk x = true := by
  simp only [isText, Bool.and_eq_true, List.all_eq_true, decide_eq_true_eq] at hx
  simp only [PyData.strOk, Array.all_eq_true_iff_forall_mem, decide_eq_true_eq] at hz ⊢
  intro c hc
  exact hz c (by simpa using hx.2 c (by simpa using hc))
theorem zip_asc {l : List Str} (hp : l.Pairwise fun a b => a.cps.toList < b.cps.toList) : ((l.zip l.tail).all fun p => decide (p.1.cps.toList < p.2.cps.toList)) = true := by
  induction l with
  | nil => rfl
  | cons x r ih =>
    rw [List.pairwise_cons] at hp
    cases r with
    | nil => rfl
    | cons y r2 =>
      have := ih hp.2
      simp only [List.tail_cons, List.zip_cons_cons, List.all_cons, Bool.and_eq_true, decide_eq_true_eq] at this ⊢
      exact ⟨hp.1 y List.mem_cons_self, this⟩
theorem k_are_names (ht : S_is_text (E.f "is_text")) : S_are_names (bodyF n_are_names (b_are_names E)) := fun h H ok => by
  refine call_low (by simp [lowDs, lowD, low_strs]) (h' := []) ?_ rfl
  have h1 : (1 : Int) ≤ (H.names.length : Int) := by have := ok.n1; omega
  have h2 : (H.names.length : Int) ≤ 6 := by have := ok.n6; omega
  have h6 : H.names.length ≤ 1000000 := by have := ok.n6; omega
  have h7 : (H.names.zip H.names.tail).length ≤ 1000000 := by simp; omega
  have hall : (H.names.all fun x => isText x abc) = true := by
    rw [List.all_eq_true]; exact ok.txt
  have hx : ∀ x ∈ H.names, x.length ≤ 1000000 := fun x hx => Nat.le_trans (txt_len (ok.txt x hx)) (by decide)
  simp [bodyF, b_are_names, startD, n_are_names, x_V, h1, h2]
  rw [compF_map (g := fun x => D.bl (isText x abc)) (by simpa using h6) (fun c hc => by
    have := ht [] c abc (hx c hc)
    simp [x_V, show ("abcdefghijklmnopqrstuvwxyz" : Str) = abc from rfl, this])]
  simp only [List.nil_append, x_bind_ok, x_mkL_f, x_of_some, kL2_a, kC1_a, kC2_a, kN_a, kTr_a, resO_s, kTN_a, kS1_a, kS0_s, kS2_a, k2_a, k2b_a, k1_a, kSet_a, kRt_a, x_asg_nm, nxO_s, kSi_t, kSi_f, x_alNil, w_all, hall, v_tru_bl, Bool.not_true]
  simp [x_V, cut_1]
  rw [← List.map_tail, zipD_map, compP_map (g := fun p : Str × Str => D.bl (decide (p.1.cps.toList < p.2.cps.toList))) (by simpa using h7) (fun p hp => by simp [x_V])]
  simp only [List.nil_append, x_bind_ok, x_mkL_f, x_of_some, kL2_a, kC1_a, kC2_a, kN_a, kTr_a, resO_s, kTN_a, kS1_a, kS0_s, kS2_a, k2_a, k2b_a, k1_a, kSet_a, kRt_a, x_asg_nm, nxO_s, kSi_t, kSi_f, x_alNil, w_all]
  have := zip_asc ok.asc
  simp at this
  simp
  exact this
theorem k_are_plates (ht : S_is_text (E.f "is_text")) : S_are_plates (bodyF n_are_plates (b_are_plates E)) := fun h H ok => by
  refine call_low (by simp [lowDs, lowD, low_strs]) (h' := []) ?_ rfl
  have h1 : H.names.length ≤ H.plates.length := ok.p1
  have h2 : (H.plates.length : Int) ≤ 6 := by have := ok.p6; omega
  have h6 : H.plates.length ≤ 1000000 := by have := ok.p6; omega
  have hx : ∀ x ∈ H.plates, x.length ≤ 8 := fun x hx => by
    rcases ok.pl x hx with rfl | h
    · decide
    · exact txt_len h
  have so : ∀ x ∈ H.plates, PyData.strOk x = true := fun x hx => by
    rcases ok.pl x hx with rfl | h
    · decide +kernel
    · exact txt_ok (z := abcp) (by decide +kernel) h
  simp [bodyF, b_are_plates, startD, n_are_plates, x_V, h1, h2]
  rw [compF_map (g := fun x => D.bl ((x == ("" : Str)) || isText x abcp)) (by simpa using h6) (fun c hc => by
    have := ht [] c abcp (Nat.le_trans (hx c hc) (by decide))
    simp [x_V]
    rw [v_eq (by simpa using so c hc) (by decide +kernel)]
    by_cases hc0 : c = ("" : Str)
    · simp [hc0]
    · have ha : addP false (.str "abcdefghijklmnopqrstuvwxyz") (.str ".") [] = some (.str abcp, []) := rfl
      simp only [hc0, eqPl_ss, beq_eq_false_iff_ne.mpr hc0, x_of_some, x_bind_ok, kOr_f, ha]
      simp [this, hc0, ha])]
  simp only [List.nil_append, x_bind_ok, x_mkL_f, x_of_some, kL2_a, kC1_a, kC2_a, kN_a, kTr_a, resO_s, kTN_a, kS1_a, kS0_s, kS2_a, k2_a, k2b_a, k1_a, kSet_a, kRt_a, x_asg_nm, nxO_s, kSi_t, kSi_f, x_alNil, w_all]
  have : (H.plates.all fun x => (x == ("" : Str)) || isText x abcp) = true := by
    rw [List.all_eq_true]; intro x hx; simpa using ok.pl x hx
  simp only [this, x_bindS_ok, kRt_a, x_andThen_rt, x_out_rt]
theorem k_is_manner (hn : S_is_number (E.f "is_number")) : S_is_manner (bodyF n_is_manner (b_is_manner E)) := fun h m n b ok h6 => by
  refine call_low (by simp [lowDs, low_mn, lowD]) (h' := []) ?_ rfl
  cases m with
  | back =>
    simp [bodyF, b_is_manner, startD, n_is_manner, x_V, Mn.d, v_tup]
    rw [v_in_tup (by decide +kernel) (by decide +kernel)]
    rfl
  | keep =>
    simp [bodyF, b_is_manner, startD, n_is_manner, x_V, Mn.d, v_tup]
    rw [v_in_tup (by decide +kernel) (by decide +kernel)]
    rfl
  | guess g =>
    simp only [mnOk, Bool.and_eq_true, decide_eq_true_eq] at ok
    obtain ⟨hl, ha⟩ := ok
    simp [bodyF, b_is_manner, startD, n_is_manner, x_V, Mn.d, hl]
    rw [v_ne (by simp) (by simp)]
    simp [x_V]
    rw [compF_map (g := fun x => D.bl true) (by simp; omega) (fun c hc => by
      have hc2 := List.all_eq_true.mp ha c hc
      cases c with
      | none => simp [x_V, oD]
      | some i =>
        simp only [Bool.and_eq_true, decide_eq_true_eq] at hc2
        have := hn [] i 0 ((b : Int) - 1)
        have h3 : i ≤ (b : Int) - 1 := by omega
        simp only [hc2.1, h3, decide_true, Bool.and_true] at this
        simp [x_V, oD, this])]
    simp only [List.nil_append, x_bind_ok, x_mkL_f, x_of_some, kL2_a, kC1_a, kC2_a, kN_a, kTr_a, resO_s, kTN_a, kS1_a, kS0_s, kS2_a, k2_a, k2b_a, k1_a, kSet_a, kRt_a, x_asg_nm, nxO_s, kSi_t, kSi_f, x_alNil]
    rw [w_all (p := fun _ => true)]
    simp
def S_are_manners (f : FnD) : Prop := ∀ h md (H : Hs), H.Ok → dicOf h md = some H.dic → LowH h → lowD h.length md = true → callM f [md, .tup (H.names.map .str), .int H.plates.length] h = .ok (.bl true) h
theorem dic_keys {H : Hs} (hl : H.ways.length = H.names.length) : (H.dic.map fun kv => dK kv.1) = H.names.map .str := by
  unfold Hs.dic
  rw [List.map_map]
  have : ((fun kv : Key × D => dK kv.1) ∘ fun p : Str × Mn => (Sum.inr p.1, p.2.d)) = D.str ∘ Prod.fst := rfl
  rw [this, ← List.map_map, List.map_fst_zip (by omega)]
theorem cps_lt_irrefl {a b : List Nat} (h : a < b) : ¬ b < a := List.lt_asymm h
theorem sort_names {H : Hs} (ok : H.Ok) : sortS H.names = H.names := by
  refine sorted_sort (ok.asc.imp fun {a b} h => ?_)
  simp only [ltS, decide_eq_false_iff_not]
  exact List.lt_asymm h
theorem nodup {H : Hs} (ok : H.Ok) : H.names.Nodup := ok.asc.imp fun {a b} h e => by
  subst e; exact List.lt_irrefl _ h
theorem look_zip {names : List Str} {ways : List Mn} (hn : names.Nodup) {x : Str} {m : Mn} (hx : (x, m) ∈ names.zip ways) : lookK ((names.zip ways).map fun p => (.inr p.1, p.2.d)) (.inr x) = some m.d := by
  induction names generalizing ways with
  | nil => cases hx
  | cons a r ih =>
    cases ways with
    | nil => cases hx
    | cons w ws =>
      rw [List.nodup_cons] at hn
      simp only [List.zip_cons_cons, List.mem_cons, Prod.mk.injEq] at hx
      unfold lookK
      simp only [List.zip_cons_cons, List.map_cons, List.find?_cons]
      rcases hx with ⟨rfl, rfl⟩ | hx
      · simp
      · have : a ≠ x := fun e => hn.1 (by rw [e]; exact (List.of_mem_zip hx).1)
        simp [this]
        have := ih hn.2 hx
        unfold lookK at this
        simpa using this
theorem mem_zip {H : Hs} (ok : H.Ok) {x : Str} (hx : x ∈ H.names) : ∃ m, (x, m) ∈ H.names.zip H.ways ∧ m ∈ H.ways := by
  obtain ⟨i, hi, rfl⟩ := List.getElem_of_mem hx
  have hw : i < H.ways.length := by rw [ok.wl]; exact hi
  refine ⟨H.ways[i], ?_, List.getElem_mem _⟩
  have : (H.names.zip H.ways)[i]'(by simp; omega) = (H.names[i], H.ways[i]) := by simp
  rw [← this]
  exact List.getElem_mem _
theorem item_dic {h : List O} {md : D} {kvs : List (Key × D)} (hd : dicOf h md = some kvs) {x : Str} : itemP md (.str x) h = (lookK kvs (.inr x)).map fun x => (x, h) := by
  cases md with
  | dic k => cases hd; rfl
  | loc n =>
    simp only [dicOf] at hd
    cases e : h[n]? with
    | none => rw [e] at hd; cases hd
    | some o =>
      rw [e] at hd
      cases o <;> simp at hd
      subst hd
      exact v_item_ldic e
  | _ => cases hd
theorem sorted_dic {h : List O} {md : D} {kvs : List (Key × D)} (hd : dicOf h md = some kvs) {ss : List Str} (hk : (kvs.map fun kv => dK kv.1) = ss.map .str) (hl : ss.length < 64) : sortedP false [md] h = some (.lst ((sortS ss).map .str), h) := by
  have h1 : lstOf h md = none := by
    cases md with
    | dic k => rfl
    | loc n =>
      simp only [dicOf] at hd
      cases e : h[n]? with
      | none => rw [e] at hd; cases hd
      | some o =>
        rw [e] at hd
        cases o <;> simp at hd
        simp [lstOf, e]
    | _ => cases hd
  simp [sortedP, one, sortedD, h1, hd, hk, strs_map, hl]
theorem names_dat {H : Hs} (ok : H.Ok) : dats 29 (H.names.map .str) = true := by
  rw [dats_all, List.all_map, List.all_eq_true]
  intro x hx
  simp only [Function.comp, dat_str]
  exact txt_ok (z := abc) (by decide +kernel) (ok.txt x hx)
theorem r_are_manners (hm : S_is_manner (E.f "is_manner")) {h : List O} {md : D} {H : Hs} (ok : H.Ok) (hd : dicOf h md = some H.dic) :
    bodyF n_are_manners (b_are_manners E) [md, .tup (H.names.map .str), .int H.plates.length] h = .ok (.bl true) h := by
  have h6 := ok.n6
  simp [bodyF, b_are_manners, startD, n_are_manners, x_V]
  rw [sorted_dic hd (dic_keys ok.wl) (by omega), sort_names ok]
  simp
  rw [v_ne (by rw [dat_tup]; exact names_dat ok) (by rw [dat_tup]; exact names_dat ok)]
  simp [eqPls_self (names_dat ok), x_V]
  rw [compF_map (g := fun _ => D.bl true) (by simp; omega) (fun c hc => by
    obtain ⟨m, h1, h2⟩ := mem_zip ok hc
    have := hm h m H.names.length H.plates.length (ok.wo m h2) h6
    simp [x_V, item_dic hd, Hs.dic, look_zip (nodup ok) h1, this])]
  simp only [List.nil_append, x_bind_ok, x_mkL_f, x_of_some, kL2_a, kC1_a, kC2_a, kN_a, kTr_a, resO_s, kTN_a, kS1_a, kS0_s, kS2_a, k2_a, k2b_a, k1_a, kSet_a, kRt_a, x_asg_nm, nxO_s, kSi_t, kSi_f, x_alNil]
  rw [w_all (p := fun _ => true)]
  simp
theorem k_are_manners (hm : S_is_manner (E.f "is_manner")) : S_are_manners (bodyF n_are_manners (b_are_manners E)) := fun h md H ok hd lh lm => by
  by_cases l : lowDs 0 [md, .tup (H.names.map .str), .int H.plates.length] = true
  · refine call_low l (h' := []) (r_are_manners hm ok ?_) rfl
    cases md with
    | dic k => cases hd; rfl
    | loc n => simp [lowDs, lowD] at l
    | _ => cases hd
  · exact call_live (r_are_manners hm ok hd) rfl rfl lh (by simpa using l)
structure HAt (E : PEnv) : Prop where
  folk : E.a "folk" 0 = some (.slot 0)
  signs : E.a "signs" 0 = some (.slot 1)
  ways : E.a "ways" 0 = some (.slot 2)
def S_House (f : FnD) : Prop := ∀ h md (H : Hs), H.Ok → dicOf h md = some H.dic → LowH h → lowD h.length md = true → callM (initF false 0 f) [.tup (H.names.map .str), .tup (H.plates.map .str), md] h = .ok H.d h
def Hs.ins (H : Hs) : O := .ins 0 [some (.tup (H.names.map .str)), some (.tup (H.plates.map .str)), some (.dic H.dic)]
theorem frds_strs {n : Nat} : ∀ {xs : List Str}, frds n (xs.map D.str) = true
  | [] => by cases n <;> rfl
  | x :: r => by
    have := frds_strs (n := n) (xs := r)
    simp [frds, this]
theorem frds_opts {n : Nat} {xs : List (Option Int)} : frds n (xs.map oD) = true := by
  rw [frds_all, List.all_map, List.all_eq_true]
  intro x _
  cases x <;> simp [oD]
theorem frd_mn {n : Nat} {m : Mn} : frd (n + 1) m.d = true := by
  cases m <;> simp [Mn.d, frd, frds_opts]
theorem frdk_dic {n : Nat} {H : Hs} : frdk (n + 1) H.dic = true := by
  rw [frdk_all, Hs.dic, List.all_map, List.all_eq_true]
  intro x _
  exact frd_mn
theorem dic_of_items {H : Hs} (ok : H.Ok) : dictOf [] H.dic = H.dic := by
  have := dictOf_new (ps := H.dic) (acc := []) (by
    have e : H.dic.map (·.1) = H.names.map Sum.inr := by
      unfold Hs.dic
      rw [List.map_map]
      have : ((fun x : Key × D => x.1) ∘ fun p : Str × Mn => (Sum.inr p.1, p.2.d)) = Sum.inr ∘ Prod.fst := rfl
      rw [this, ← List.map_map, List.map_fst_zip (by have := ok.wl; omega)]
    rw [e]
    simp only [List.map_nil, List.nil_append]
    exact List.Pairwise.map _ (fun a b hab e => hab (Sum.inr.inj e)) (nodup ok))
  simpa using this
theorem look_dic {H : Hs} (ok : H.Ok) : (H.names.map fun x => ((Sum.inr x : Key), ((lookK H.dic (.inr x)).getD .non))) = H.dic := by
  refine List.ext_getElem (by simp [Hs.dic, ok.wl]) fun i h1 h2 => ?_
  have hi : i < H.names.length := by simpa using h1
  have hw : i < H.ways.length := by rw [ok.wl]; exact hi
  have hm : (H.names[i], H.ways[i]) ∈ H.names.zip H.ways := by
    have : (H.names.zip H.ways)[i]'(by simp; omega) = (H.names[i], H.ways[i]) := by simp
    rw [← this]; exact List.getElem_mem _
  have := look_zip (nodup ok) hm
  simp only [List.getElem_map, Hs.dic]
  rw [this]
  simp
theorem r_House (hat : HAt E) (h1 : S_are_names (E.f "are_names")) (h2 : S_are_plates (E.f "are_plates")) (h3 : S_are_manners (E.f "are_manners")) {h : List O} {md : D} {H : Hs} (ok : H.Ok) (hd : dicOf h md = some H.dic) (lh : LowH h) (lm : lowD h.length md = true) :
    bodyF n_House___init__ (b_House___init__ E) [.loc h.length, .tup (H.names.map .str), .tup (H.plates.map .str), md] (h ++ [.ins 0 []]) = .ok .non (h ++ [H.ins]) := by
  have lh1 : LowH (h ++ [.ins 0 []]) := lh.push rfl
  have hd1 : dicOf (h ++ [.ins 0 []]) md = some H.dic := dicOf_app hd
  have e3 := h3 (h ++ [.ins 0 []]) md H ok hd1 lh1 (by rw [List.length_append]; exact lowD_mono (Nat.le_add_right _ _) lm)
  have h6 := ok.n6
  simp [bodyF, b_House___init__, startD, n_House___init__, x_V, h1 _ H ok, h2 _ H ok, e3]
  simp [setA, hat.folk, hat.signs, hat.ways, x_V, putSD]
  rw [compF_map (g := fun x => ((Sum.inr x : Key), ((lookK H.dic (.inr x)).getD .non))) (by simp; omega) (fun c hc => by
    obtain ⟨m, z1, z2⟩ := mem_zip ok hc
    have := look_zip (nodup ok) z1
    simp [x_V, item_dic (dicOf_app hd), Hs.dic, this, keyD])]
  simp only [List.nil_append, look_dic ok]
  simp [x_V, Hs.ins, setA, hat.ways, putSD, dic_of_items ok]
theorem k_House (hat : HAt E) (h1 : S_are_names (E.f "are_names")) (h2 : S_are_plates (E.f "are_plates")) (h3 : S_are_manners (E.f "are_manners")) : S_House (bodyF n_House___init__ (b_House___init__ E)) := fun h md H ok hd lh lm => by
  have frz : ∀ (h : List O), setD (h ++ [H.ins]) h.length (.loc h.length) = some H.d := fun h => by
    unfold setD
    rw [if_neg (by simp [lowD])]
    show frzD _ _ (19 + 1) _ = _
    simp only [frzD]
    rw [if_neg (by omega), get_end]
    have a1 : frzD (h ++ [H.ins]) h.length 19 (.tup (H.names.map .str)) = some (.tup (H.names.map .str)) := frz_frd (n := 1) frds_strs (by decide)
    have a2 : frzD (h ++ [H.ins]) h.length 19 (.tup (H.plates.map .str)) = some (.tup (H.plates.map .str)) := frz_frd (n := 1) frds_strs (by decide)
    have a3 : frzD (h ++ [H.ins]) h.length 19 (.dic H.dic) = some (.dic H.dic) := frz_frd (n := 2) frdk_dic (by decide)
    simp only [Hs.ins] at a1 a2 a3 ⊢
    simp [a1, a2, a3, Hs.d]
  have run : ∀ (h : List O) (md : D), dicOf h md = some H.dic → LowH h → lowD h.length md = true → initF false 0 (bodyF n_House___init__ (b_House___init__ E)) [.tup (H.names.map .str), .tup (H.plates.map .str), md] h = .ok (.loc h.length) (h ++ [H.ins]) := fun h md hd lh lm => by
    unfold initF
    show (match bodyF n_House___init__ (b_House___init__ E) (.loc h.length :: [.tup (H.names.map .str), .tup (H.plates.map .str), md]) (h ++ [.ins 0 []]) with | .ok .non h' => _ | .ok _ _ => _ | .ex a b c => _ | .no => _) = _
    rw [r_House hat h1 h2 h3 ok hd lh lm]
  by_cases l : lowDs 0 [.tup (H.names.map .str), .tup (H.plates.map .str), md] = true
  · have hd0 : dicOf [] md = some H.dic := by
      cases md with
      | dic k => exact hd
      | loc n => simp [lowDs, lowD] at l
      | _ => cases hd
    have l0 : lowD 0 md = true := by simp [lowDs] at l; exact l.2.2
    exact call_pure l (run [] md hd0 LowH.nil l0) (frz [])
  · exact call_drop (h' := h) (run h md hd lh lm) rfl (frz h) lh (by simpa using l)
end
end Lp
namespace Lp
open PySem L2 Lo
@[simp] theorem cls_d {h : List O} {H : Hs} : clsOf h H.d = some 0 := Eq.trans rfl rfl
@[simp] theorem slt_d {h : List O} {H : Hs} : sltB h H.d = true := Eq.trans rfl rfl
@[simp] theorem slot0_d {h : List O} {H : Hs} : slotD h 0 H.d = some (.tup (H.names.map .str)) := Eq.trans rfl rfl
@[simp] theorem slot1_d {h : List O} {H : Hs} : slotD h 1 H.d = some (.tup (H.plates.map .str)) := Eq.trans rfl rfl
@[simp] theorem slot2_d {h : List O} {H : Hs} : slotD h 2 H.d = some (.dic H.dic) := Eq.trans rfl rfl
theorem frd_d {n : Nat} {H : Hs} : frd (n + 3) H.d = true := by
  simp only [Hs.d, frd, frds, frds_strs, frdk_dic, Bool.and_self]
@[simp] theorem low_d {m : Nat} {H : Hs} : lowD m H.d = true := low_frd (n := 3) frd_d
def S_names (f : FnD) : Prop := ∀ h (H : Hs), callM f [H.d] h = .ok (.tup (H.names.map .str)) h
def S_plates (f : FnD) : Prop := ∀ h (H : Hs), callM f [H.d] h = .ok (.tup (H.plates.map .str)) h
def S_manners (f : FnD) : Prop := ∀ h (H : Hs), callM f [H.d] h = .ok (.dic H.dic) h
def S_len (f : FnD) : Prop := ∀ h (H : Hs), callM f [H.d] h = .ok (.int H.plates.length) h
def S_eqr (f : FnD) : Prop := ∀ h (H : Hs), H.Ok → callM f [H.d, H.d] h = .ok (.bl true) h
structure HEnv (E : PEnv) : Prop extends HAt E where
  names : ∃ g, E.a "names" 0 = some (.prop g) ∧ S_names g
  plates : ∃ g, E.a "plates" 0 = some (.prop g) ∧ S_plates g
  manners : ∃ g, E.a "manners" 0 = some (.prop g) ∧ S_manners g
  own : E.ow.c = 0
  len : ∃ g, E.ow.len = some g ∧ S_len g
  eqr : ∃ g, E.ow.eq = some g ∧ S_eqr g
section
variable {E : PEnv}
theorem k_names (hat : HAt E) : S_names (bodyF n_House_names (b_House_names E)) := fun h H => by
  refine call_low (by simp [lowDs]) (h' := []) ?_ (by simp [lowD, low_strs])
  simp [bodyF, b_House_names, startD, n_House_names, x_V, hat.folk]
theorem k_plates (hat : HAt E) : S_plates (bodyF n_House_plates (b_House_plates E)) := fun h H => by
  refine call_low (by simp [lowDs]) (h' := []) ?_ (by simp [lowD, low_strs])
  simp [bodyF, b_House_plates, startD, n_House_plates, x_V, hat.signs]
theorem k_manners (hat : HAt E) : S_manners (bodyF n_House_manners (b_House_manners E)) := fun h H => by
  refine call_low (by simp [lowDs]) (h' := []) ?_ (low_frd (n := 2) frdk_dic)
  simp [bodyF, b_House_manners, startD, n_House_manners, x_V, hat.ways, dictP, one, dicOf]
theorem k_len (hat : HAt E) : S_len (bodyF n_House___len__ (b_House___len__ E)) := fun h H => by
  refine call_low (by simp [lowDs]) (h' := []) ?_ rfl
  simp [bodyF, b_House___len__, startD, n_House___len__, x_V, hat.signs]
theorem mn_dat {m : Mn} : dat 1 m.d = true := by
  cases m with
  | back => decide +kernel
  | keep => decide +kernel
  | guess g =>
    simp only [Mn.d, dat, dats_all, List.all_map, List.all_eq_true]
    intro x _
    cases x <;> simp [oD]
theorem eqHits_self {h : List O} {kb : List (Key × D)} : ∀ {ka : List (Key × D)}, (∀ p ∈ ka, lookK kb p.1 = some p.2) → (∀ p ∈ ka, dat 30 p.2 = true) → eqHits h kb ka = some true
  | [], _, _ => rfl
  | (k, d) :: r, h1, h2 => by
    have a := h1 (k, d) List.mem_cons_self
    have b := h2 (k, d) List.mem_cons_self
    simp only at a b
    simp only [eqHits, a, eqD_dat b b, eqPl_self b]
    rw [eqHits_self (fun p hp => h1 p (List.mem_cons_of_mem _ hp)) (fun p hp => h2 p (List.mem_cons_of_mem _ hp))]; rfl
theorem dic_mem {H : Hs} (ok : H.Ok) : ∀ p ∈ H.dic, lookK H.dic p.1 = some p.2 ∧ dat 30 p.2 = true := fun p hp => by
  unfold Hs.dic at hp
  obtain ⟨q, hq, rfl⟩ := List.mem_map.mp hp
  exact ⟨look_zip (nodup ok) hq, dat_mono mn_dat (by decide)⟩
theorem plates_ok {H : Hs} (ok : H.Ok) : ∀ x ∈ H.plates, PyData.strOk x = true := fun x hx => by
  rcases ok.pl x hx with rfl | h
  · decide +kernel
  · exact txt_ok (z := abcp) (by decide +kernel) h
theorem names_ok {H : Hs} (ok : H.Ok) : ∀ x ∈ H.names, PyData.strOk x = true := fun x hx => txt_ok (z := abc) (by decide +kernel) (ok.txt x hx)
theorem plates_dat {H : Hs} (ok : H.Ok) : dats 29 (H.plates.map .str) = true := by
  rw [dats_all, List.all_map, List.all_eq_true]
  intro x hx
  simpa using plates_ok ok x hx
theorem eq_dic {ow : OwnV} {h : List O} {H : Hs} (ok : H.Ok) : eqO ow (.dic H.dic) (.dic H.dic) h = some (.bl true, h) := by
  unfold eqO
  rw [if_neg (by simp [ownB, sltB])]
  simp [eqX, dicOf, eqDic, eqHits_self (h := h) (fun p hp => (dic_mem ok p hp).1) (fun p hp => (dic_mem ok p hp).2), bD]
theorem k_eqr (hat : HAt E) (hn : ∃ g, E.a "names" 0 = some (.prop g) ∧ S_names g) (hp : ∃ g, E.a "plates" 0 = some (.prop g) ∧ S_plates g) (hm : ∃ g, E.a "manners" 0 = some (.prop g) ∧ S_manners g) (hc : E.ow.c = 0) : S_eqr (bodyF n_House___eq__ (b_House___eq__ E)) := fun h H ok => by
  obtain ⟨g1, n1, n2⟩ := hn
  obtain ⟨g2, p1, p2⟩ := hp
  obtain ⟨g3, m1, m2⟩ := hm
  refine call_low (by simp [lowDs]) (h' := []) ?_ rfl
  have hi : isiO E.ow [H.d, .cl 0] [] = some (.bl true, []) := by simp [isiO, ownB, hc]
  have e1 : neO E.ow (.tup (H.names.map .str)) (.tup (H.names.map .str)) [] = some (.bl false, []) := by
    rw [v_ne (by rw [dat_tup]; exact names_dat ok) (by rw [dat_tup]; exact names_dat ok)]
    simp [eqPls_self (names_dat ok)]
  have e2 : neO E.ow (.tup (H.plates.map .str)) (.tup (H.plates.map .str)) [] = some (.bl false, []) := by
    rw [v_ne (by rw [dat_tup]; exact plates_dat ok) (by rw [dat_tup]; exact plates_dat ok)]
    simp [eqPls_self (plates_dat ok)]
  simp [bodyF, b_House___eq__, startD, n_House___eq__, x_V, hat.folk, hat.signs, hat.ways, n1, n2 _ H, p1, p2 _ H, m1, m2 _ H, hi, e1, e2, eq_dic ok]
theorem v_len_d (hE : HEnv E) {h : List O} {H : Hs} (ok : H.Ok) : lenO E.ow [H.d] h = some (.int H.plates.length, h) := by
  obtain ⟨g, e1, e2⟩ := hE.len
  have h6 := ok.p6
  have : (H.plates.length : Int) < 9223372036854775808 := by omega
  simp [lenO, ownB, hE.own, e1, e2 h H, this]
theorem v_ne_d (hE : HEnv E) {h : List O} {H : Hs} (ok : H.Ok) : neO E.ow H.d H.d h = some (.bl false, h) := by
  obtain ⟨g, e1, e2⟩ := hE.eqr
  simp [neO, ownB, hE.own, e1, e2 h H ok]
end
end Lp
namespace Lp
open PySem L2 Lo
def chk (xs : List Int) : Int := xs.foldl (fun c x => (21 * c + x) % 241) 9
def sgn (c : Nat) : Int := if c = 46 then 0 else (c : Int) - 96
def ti (x : Str) : List Int := (x.length : Int) :: x.cps.toList.map sgn
def bi : Option Int → Int
  | none => 6
  | some i => i
def mi : Mn → List Int
  | .back => [0]
  | .keep => [1]
  | .guess g => 2 :: g.map bi
def dsigns : Str := ".abcdefghijklmnopqrstuvwxyz"
def enc (H : Hs) : List Int := [66, (H.plates.length : Int)] ++ H.plates.flatMap ti ++ [(H.names.length : Int)] ++ H.names.flatMap ti ++ H.ways.flatMap mi
def S_checksum (f : FnD) : Prop := (∀ h (xs : List Int), callM f [.lst (xs.map .int)] h = .ok (.int (chk xs)) h) ∧
  ∀ h n (xs : List Int), h[n]? = some (.lst (xs.map .int)) → LowH h → xs.length ≤ 100000 → callM f [.loc n] h = .ok (.int (chk xs)) h
def S_text_items (f : FnD) : Prop := ∀ h (x : Str), (x = "" ∨ isText x abcp = true) → callM f [.str x] h = .ok (.lst ((ti x).map .int)) h
def S_manner_items (f : FnD) : Prop := ∀ h (m : Mn) n b, mnOk n b m = true → n ≤ 6 → callM f [m.d] h = .ok (.lst ((mi m).map .int)) h
def S_encode (f : FnD) : Prop := ∀ h (H : Hs), H.Ok → callM f [H.d] h = .ok (.lst ((enc H ++ [chk (enc H)]).map .int)) h
section
variable {E : PEnv}
theorem sm21 {c : Int} : small64 21 = true ∨ small64 c = true := .inl (by decide)
theorem r_checksum {h : List O} {xs : List Int} : bodyF n_checksum (b_checksum E) [.lst (xs.map .int)] h = .ok (.int (chk xs)) h := by
  simp [bodyF, b_checksum, startD, n_checksum, x_V]
  refine forF_P (fun o => outR o = _) (fun pre s h' => h' = h ∧ ∃ z, s = [some (.lst (xs.map .int)), some (.int (chk pre)), z]) ⟨rfl, none, rfl⟩ ?_ ?_
  · rintro pre x post s h' _ ⟨rfl, z, rfl⟩
    refine ⟨_, x_asg_nm, _, _, ?_, rfl, some (.int x), rfl⟩
    simp [x_V, v_mul sm21, v_mod, chk]
  · rintro s h' ⟨rfl, z, rfl⟩
    simp [x_V]
theorem r_checksum_live {h : List O} {n : Nat} {xs : List Int} (hn : h[n]? = some (.lst (xs.map .int))) (hl : xs.length ≤ 100000) : bodyF n_checksum (b_checksum E) [.loc n] h = .ok (.int (chk xs)) h := by
  simp [bodyF, b_checksum, startD, n_checksum, x_V, srcOf_loc hn]
  refine forL_P (φ := D.int) (xs := xs) (fun o => outR o = _) (fun pre s h' => h' = h ∧ ∃ z, s = [some (.loc n), some (.int (chk pre)), z]) (by omega) ?_ ⟨rfl, none, rfl⟩ ?_ ?_
  · rintro pre s h' ⟨rfl, _⟩
    exact hn
  · rintro pre x post s h' _ ⟨rfl, z, rfl⟩
    refine ⟨_, x_asg_nm, _, _, ?_, rfl, some (.int x), rfl⟩
    simp [x_V, v_mul sm21, v_mod, chk]
  · rintro s h' ⟨rfl, z, rfl⟩
    simp [x_V]
theorem k_checksum : S_checksum (bodyF n_checksum (b_checksum E)) := ⟨fun h xs => call_low (by simp [lowDs, lowD, low_ints]) r_checksum rfl, fun h n xs hn lh hl => call_live (r_checksum_live hn hl) rfl rfl lh (by simp [lowDs, lowD])⟩
theorem idx_all : (abcp.cps.toList.all fun c => match Builtin.Str.occurrences dsigns ⟨#[c]⟩ 0 dsigns.length 1 with
    | i :: _ => decide (((i : Nat) : Int) = sgn c)
    | [] => false) = true := by decide +kernel
theorem v_sindex {h : List O} {c : Nat} (hc : c ∈ abcp.cps.toList) : sindexP (.str dsigns) [.str ⟨#[c]⟩] h = some (.int (sgn c), h) := by
  have := List.all_eq_true.mp idx_all c hc
  cases e : Builtin.Str.occurrences dsigns ⟨#[c]⟩ 0 dsigns.length 1 with
  | nil => rw [e] at this; cases this
  | cons i r =>
    rw [e] at this
    have this : ((i : Nat) : Int) = sgn c := by simpa using this
    unfold sindexP
    simp only [e]
    rw [this]
theorem txt_mem {x : Str} (hx : x = "" ∨ isText x abcp = true) : x.length ≤ 8 ∧ ∀ c ∈ x.cps.toList, c ∈ abcp.cps.toList := by
  rcases hx with rfl | hx
  · exact ⟨by decide +kernel, fun c hc => by simp [show (Str.ofString "").cps = #[] from rfl] at hc⟩
  · refine ⟨txt_len hx, fun c hc => ?_⟩
    simp only [isText, Bool.and_eq_true, List.all_eq_true, decide_eq_true_eq] at hx
    exact hx.2 c hc
theorem k_text_items : S_text_items (bodyF n_text_items (b_text_items E)) := fun h x hx => by
  obtain ⟨h8, hc⟩ := txt_mem hx
  refine call_low (by simp [lowDs, lowD]) (h' := []) ?_ (by simp only [lowD]; exact low_ints)
  have hl : x.length ≤ 1000000 := by omega
  simp [bodyF, b_text_items, startD, n_text_items, x_V, v_len_str hl]
  rw [charsD_map, compF_map (g := fun c => D.int (sgn c)) (by simpa [Str.length] using hl) (fun c z => by
    simp [x_V, show (".abcdefghijklmnopqrstuvwxyz" : Str) = dsigns from rfl, v_sindex (hc c z)])]
  simp only [List.nil_append, x_bind_ok, x_mkL_f, x_of_some, kL2_a, kC1_a, kC2_a, kN_a, kTr_a, resO_s, kTN_a, kS1_a, kS0_s, kS2_a, k2_a, k2b_a, k1_a, kSet_a, kRt_a, x_asg_nm, nxO_s, kSi_t, kSi_f, x_alNil, v_seq_lst, List.append_nil]
  rw [v_list (by simpa [Str.length] using (by simp only [Str.length] at h8; omega))]
  simp [ti]
theorem k_manner_items : S_manner_items (bodyF n_manner_items (b_manner_items E)) := fun h m n b ok h6 => by
  refine call_low (by simp [lowDs, low_mn]) (h' := []) ?_ (by simp only [lowD]; exact low_ints)
  cases m with
  | back =>
    simp [bodyF, b_manner_items, startD, n_manner_items, x_V, Mn.d, v_list]
    rw [v_eq (by decide +kernel) (by decide +kernel)]
    simp [mi, v_list]
  | keep =>
    simp [bodyF, b_manner_items, startD, n_manner_items, x_V, Mn.d, v_list]
    rw [v_eq (by decide +kernel) (by decide +kernel)]
    have : ((Str.ofString "keep") == (Str.ofString "back")) = false := by decide +kernel
    simp [mi, v_list, this]
  | guess g =>
    simp only [mnOk, Bool.and_eq_true, decide_eq_true_eq] at ok
    simp [bodyF, b_manner_items, startD, n_manner_items, x_V, Mn.d]
    rw [compF_map (g := fun o => D.int (bi o)) (by simp; omega) (fun c z => by
      cases c <;> simp [x_V, oD, bi])]
    simp only [List.nil_append, x_bind_ok, x_mkL_f, x_of_some, kL2_a, kC1_a, kC2_a, kN_a, kTr_a, resO_s, kTN_a, kS1_a, kS0_s, kS2_a, k2_a, k2b_a, k1_a, kSet_a, kRt_a, x_asg_nm, nxO_s, kSi_t, kSi_f, x_alNil, v_seq_lst, List.append_nil]
    rw [v_list (by simp; omega)]
    simp [mi]
theorem ti_len {x : Str} : (ti x).length = x.length + 1 := by simp [ti, Str.length]
theorem flat_len {α : Type} {f : α → List Int} {c : Nat} : ∀ {l : List α}, (∀ x ∈ l, (f x).length ≤ c) → (l.flatMap f).length ≤ c * l.length
  | [], _ => by simp
  | a :: r, h => by
    have h1 := h a List.mem_cons_self
    have h2 := flat_len (l := r) fun x hx => h x (List.mem_cons_of_mem _ hx)
    simp only [List.flatMap_cons, List.length_append, List.length_cons]
    rw [Nat.mul_succ]; omega
theorem flat_len6 {α : Type} {f : α → List Int} {l : List α} (h : ∀ x ∈ l, (f x).length ≤ 9) (h6 : l.length ≤ 6) : (l.flatMap f).length ≤ 54 := by
  have := flat_len h; omega
theorem pl_ti {H : Hs} (ok : H.Ok) : ∀ x ∈ H.plates, (ti x).length ≤ 9 := fun x hx => by
  have := (txt_mem (ok.pl x hx)).1
  rw [ti_len]; omega
theorem abc_sub {x : Str} (hx : isText x abc = true) : isText x abcp = true := by
  simp only [isText, Bool.and_eq_true, List.all_eq_true, decide_eq_true_eq] at hx ⊢
  refine ⟨hx.1, fun c hc => ?_⟩
  have h1 := hx.2 c hc
  have : (abc.cps.toList.all fun c => decide (c ∈ abcp.cps.toList)) = true := by decide +kernel
  simpa using List.all_eq_true.mp this c h1
theorem nm_ti {H : Hs} (ok : H.Ok) : ∀ x ∈ H.names, (ti x).length ≤ 9 := fun x hx => by
  have := (txt_mem (.inr (abc_sub (ok.txt x hx)))).1
  rw [ti_len]; omega
theorem wy_mi {H : Hs} (ok : H.Ok) : ∀ m ∈ H.ways, (mi m).length ≤ 9 := fun m hm => by
  have := ok.wo m hm
  have h6 := ok.n6
  cases m with
  | back => simp [mi]
  | keep => simp [mi]
  | guess g =>
    simp only [mnOk, Bool.and_eq_true, decide_eq_true_eq] at this
    simp [mi]; omega
theorem pre_len {α : Type} {f : α → List Int} {pre : List α} {x : α} {post l : List α} (h : ∀ x ∈ l, (f x).length ≤ 9) (h6 : l.length ≤ 6) (e : l = pre ++ x :: post) : (pre.flatMap f).length ≤ 54 ∧ (f x).length ≤ 9 ∧ x ∈ l := by
  have hx : x ∈ l := by rw [e]; simp
  have : (l.flatMap f).length ≤ 54 := flat_len6 h h6
  rw [e] at this
  simp only [List.flatMap_append, List.length_append] at this
  exact ⟨by omega, h x hx, hx⟩
theorem low_lst {xs : List Int} : LowH [.lst (xs.map D.int)] := fun o ho => by
  rw [List.mem_singleton.mp ho]; exact low_ints
theorem vals_dic {H : Hs} (hl : H.ways.length = H.names.length) : (H.dic.map (·.2)) = H.ways.map Mn.d := by
  unfold Hs.dic
  rw [List.map_map]
  have : ((fun x : Key × D => x.2) ∘ fun p : Str × Mn => (Sum.inr p.1, p.2.d)) = Mn.d ∘ Prod.snd := rfl
  rw [this, ← List.map_map, List.map_snd_zip (by omega)]
theorem k_encode (hE : HEnv E) (hc : S_checksum (E.f "checksum")) (ht : S_text_items (E.f "text_items")) (hm : S_manner_items (E.f "manner_items")) : S_encode (bodyF n_encode_house (b_encode_house E)) := fun h H ok => by
  obtain ⟨g1, n1, n2⟩ := hE.names
  obtain ⟨g2, p1, p2⟩ := hE.plates
  obtain ⟨g3, m1, m2⟩ := hE.manners
  have hp6 := ok.p6
  have hn6 := ok.n6
  have hw6 : H.ways.length ≤ 6 := by rw [ok.wl]; exact ok.n6
  have fp := flat_len6 (pl_ti ok) hp6
  have fn := flat_len6 (nm_ti ok) hn6
  have fw := flat_len6 (wy_mi ok) hw6
  refine call_low (by simp [lowDs]) (h' := [.lst ((enc H).map .int)]) ?_ (by simp only [lowD]; exact low_ints)
  simp [bodyF, b_encode_house, startD, n_encode_house, x_V, v_len_d hE ok, v_list, p1, p2 _ H]
  refine forF_P (fun o => outR o = _) (fun pre s h' => h' = [.lst (([66, (H.plates.length : Int)] ++ pre.flatMap ti).map .int)] ∧ ∃ z, s = [some H.d, some (.loc 0), z, none, none]) ⟨by simp, none, rfl⟩ ?_ ?_
  · rintro pre x post s h' e ⟨rfl, z, rfl⟩
    obtain ⟨l1, l2, hx⟩ := pre_len (pl_ti ok) hp6 e
    refine ⟨_, x_asg_nm, _, _, ?_, rfl, some (.str x), rfl⟩
    simp [x_V, ty_loc (h := [.lst _]) (n := 0) rfl, ht _ x (ok.pl x hx)]
    rw [v_extend (n := 0) rfl (by simp [-List.length_flatMap]; omega)]
    simp
  rintro s h' ⟨rfl, z, rfl⟩
  simp [x_V, ty_loc (h := [.lst _]) (n := 0) rfl, n1, n2 _ H]
  rw [v_append (n := 0) rfl (by simp [-List.length_flatMap]; omega)]
  simp [x_V, n1, n2 _ H]
  refine forF_P (fun o => outR o = _) (fun pre s h' => h' = [.lst (([66, (H.plates.length : Int)] ++ H.plates.flatMap ti ++ [(H.names.length : Int)] ++ pre.flatMap ti).map .int)] ∧ ∃ z z2, s = [some H.d, some (.loc 0), z, z2, none]) ⟨by simp, z, none, rfl⟩ ?_ ?_
  · rintro pre x post s h' e ⟨rfl, z, z2, rfl⟩
    obtain ⟨l1, l2, hx⟩ := pre_len (nm_ti ok) hn6 e
    refine ⟨_, x_asg_nm, _, _, ?_, rfl, z, some (.str x), rfl⟩
    simp [x_V, ty_loc (h := [.lst _]) (n := 0) rfl, ht _ x (.inr (abc_sub (ok.txt x hx)))]
    rw [v_extend (n := 0) rfl (by simp [-List.length_flatMap]; omega)]
    simp
  rintro s h' ⟨rfl, z, z2, rfl⟩
  simp [x_V, m1, m2 _ H, valsS, vals_dic ok.wl]
  refine forF_P (fun o => outR o = _) (fun pre s h' => h' = [.lst (([66, (H.plates.length : Int)] ++ H.plates.flatMap ti ++ [(H.names.length : Int)] ++ H.names.flatMap ti ++ pre.flatMap mi).map .int)] ∧ ∃ z z2 z3, s = [some H.d, some (.loc 0), z, z2, z3]) ⟨by simp, z, z2, none, rfl⟩ ?_ ?_
  · rintro pre x post s h' e ⟨rfl, z, z2, z3, rfl⟩
    obtain ⟨l1, l2, hx⟩ := pre_len (wy_mi ok) hw6 e
    refine ⟨_, x_asg_nm, _, _, ?_, rfl, z, z2, some x.d, rfl⟩
    simp [x_V, ty_loc (h := [.lst _]) (n := 0) rfl, hm _ x _ _ (ok.wo x hx) hn6]
    rw [v_extend (n := 0) rfl (by simp [-List.length_flatMap]; omega)]
    simp
  rintro s h' ⟨rfl, z, z2, z3, rfl⟩
  have e1 : [66, (H.plates.length : Int)] ++ H.plates.flatMap ti ++ [(H.names.length : Int)] ++ H.names.flatMap ti ++ H.ways.flatMap mi = enc H := rfl
  rw [e1]
  have le : (enc H).length ≤ 1000 := by simp [enc, -List.length_flatMap]; omega
  have := hc.2 [.lst ((enc H).map .int)] 0 (enc H) rfl low_lst (by omega)
  simp [x_V, this, v_seq_loc (h := [.lst _]) (n := 0) rfl]
  rw [v_list (by simp [-List.length_flatMap]; omega)]
  simp
end
end Lp
namespace Lp
open PySem L2 Lo
def rfs (vs : List Int) (k : Nat) : List (Str × D) := [("data", .lst (vs.map .int)), ("spot", .int k)]
def rdr (vs : List Int) (k : Nat) : O := .ind 1 (rfs vs k)
structure RAt (E : PEnv) : Prop where
  data : E.a "data" 1 = some .fld
  spot : E.a "spot" 1 = some .fld
def S_item (f : FnD) : Prop := ∀ vs k x lo hi, vs[k]? = some x → lo ≤ x → x ≤ hi → callM f [.loc 0, .int lo, .int hi] [rdr vs k] = .ok (.int x) [rdr vs (k + 1)]
def S_read_text (f : FnD) : Prop := ∀ vs pre (x : Str) post (least : Int), vs = pre ++ ti x ++ post → least ≤ x.length → x.length ≤ 8 → (∀ c ∈ x.cps.toList, c ∈ abcp.cps.toList ∧ least ≤ sgn c) → callM f [.loc 0, .int least] [rdr vs pre.length] = .ok (.str x) [rdr vs (pre.length + (ti x).length)]
def S_read_manner (f : FnD) : Prop := ∀ vs pre (m : Mn) post n b, vs = pre ++ mi m ++ post → mnOk n b m = true → n ≤ 6 → b ≤ 6 → callM f [.loc 0, .int n] [rdr vs pre.length] = .ok m.d [rdr vs (pre.length + (mi m).length)]
def S_finish (f : FnD) : Prop := ∀ vs, vs.length ≤ 1000 → callM f [.loc 0] [rdr (vs ++ [chk vs]) vs.length] = .ok .non [rdr (vs ++ [chk vs]) (vs.length + 1)]
def S_decode (f : FnD) : Prop := ∀ h (H : Hs), H.Ok → callM f [.lst ((enc H ++ [chk (enc H)]).map .int)] h = .ok H.d h
section
variable {E : PEnv} {vs : List Int} {k : Nat}
@[simp] theorem cls_r : clsOf [rdr vs k] (.loc 0) = some 1 := Eq.trans rfl rfl
@[simp] theorem fld_d : fldD [rdr vs k] "data" (.loc 0) = some (.lst (vs.map .int)) := Eq.trans rfl rfl
@[simp] theorem fld_s : fldD [rdr vs k] "spot" (.loc 0) = some (.int k) := Eq.trans rfl rfl
theorem low_r : LowH [rdr vs k] := fun o ho => by
  rw [List.mem_singleton.mp ho]
  simp [rdr, rfs, lowO, lowD, low_ints]
@[simp] theorem met_r {m : Str} (h1 : (m == ("data" : Str)) = false) (h2 : (m == ("spot" : Str)) = false) : metB false [rdr vs k] 1 m (.loc 0) = true := by
  simp [metB, rdr, rfs, List.lookup, h1, h2]
theorem put_spot {j : Nat} : putFD "spot" (.int (k + j : Nat)) (rfs vs k) = rfs vs (k + j) := rfl
theorem k_item (ra : RAt E) (hn : S_is_number (E.f "is_number")) : S_item (bodyF n_Reader_item (b_Reader_item E)) := fun vs k x lo hi hk h1 h2 => by
  refine call_live (h := [rdr vs k]) (h' := [rdr vs (k + 1)]) ?_ rfl rfl low_r rfl
  have hl : k < vs.length := (List.getElem?_eq_some_iff.mp hk).1
  have h0 : ¬ (vs.length : Int) ≤ (k : Int) := by omega
  have e1 : atI (vs.map D.int) (k : Int) = some (.int x) := by rw [v_ix_nat, List.getElem?_map, hk]; rfl
  have e2 := hn [rdr vs k] x lo hi
  simp only [h1, h2, decide_true, Bool.and_true] at e2
  simp [bodyF, b_Reader_item, startD, n_Reader_item, x_V, ra.data, ra.spot, h0, e1, e2]
  rw [x_AugA (n := 0) (c := 1) (fs := rfs vs k) (x := .int k) (y := .int 1) (z := .int (k + 1 : Nat)) (h1 := []) (h3 := []) rfl rfl ra.spot rfl rfl (by simp [intP]) (by simp [rfs])]
  have e3 : ([rdr vs k].set 0 (.ind 1 (putFD "spot" (.int (k + 1 : Nat)) (rfs vs k)))) = [rdr vs (k + 1)] := by rw [put_spot]; rfl
  rw [e3]
  have e4 : (((k + 1 : Nat) : Int) - 1) = (k : Int) := by omega
  simp [x_V, ra.data, ra.spot, e1]
theorem ge1 {pre : List Int} {x : Int} {post : List Int} : (pre ++ x :: post)[pre.length]? = some x := by simp
theorem sg_all : (abcp.cps.toList.all fun c => decide (0 ≤ sgn c) && decide (sgn c ≤ 26) && decide (atI dsigns.cps.toList (sgn c) = some c)) = true := by decide +kernel
theorem sg_at {c : Nat} (hc : c ∈ abcp.cps.toList) : sgn c ≤ 26 ∧ atI dsigns.cps.toList (sgn c) = some c := by
  have := List.all_eq_true.mp sg_all c hc
  simp only [Bool.and_eq_true, decide_eq_true_eq] at this
  exact ⟨this.1.2, this.2⟩
theorem v_item_sg {h : List O} {c : Nat} (hc : c ∈ abcp.cps.toList) : itemP (.str dsigns) (.int (sgn c)) h = some (.str ⟨#[c]⟩, h) := by
  have hl : dsigns.length ≤ sizeLine := by decide +kernel
  simp [itemP, hl, (sg_at hc).2]
theorem nm_item : (("item" : Str) == ("data" : Str)) = false ∧ (("item" : Str) == ("spot" : Str)) = false := by decide +kernel
theorem str_ext {x y : Str} (h : x.cps.toList = y.cps.toList) : x = y := by
  cases x; cases y; congr 1; exact Array.toList_inj.mp h
theorem join_cs : ∀ cs : List Nat, (Str.join "" (cs.map fun c => (⟨#[c]⟩ : Str))).cps.toList = cs
  | [] => rfl
  | [c] => rfl
  | c :: d :: r => by
    have ih := join_cs (d :: r)
    show ((⟨#[c]⟩ : Str) ++ "" ++ Str.join "" ((d :: r).map fun c => (⟨#[c]⟩ : Str))).cps.toList = _
    have ea : ∀ a b : Str, (a ++ b).cps.toList = a.cps.toList ++ b.cps.toList := fun a b => by
      show (a.cps ++ b.cps).toList = _
      simp
    rw [ea, ea, ih]
    rfl
theorem sum_ones : ∀ cs : List Nat, ((cs.map fun c => (⟨#[c]⟩ : Str)).map (·.length)).sum = cs.length
  | [] => rfl
  | c :: r => by
    have := sum_ones r
    simp only [List.map_cons, List.sum_cons, List.length_cons]
    rw [this]
    show 1 + r.length = _
    omega
theorem join_chars {h : List O} {cs : List Nat} (hl : cs.length ≤ 1000) : joinP (.str "") [.lst (cs.map fun c => D.str ⟨#[c]⟩)] h = some (.str ⟨cs.toArray⟩, h) := by
  have e1 : strs? (cs.map fun c => D.str ⟨#[c]⟩) = some (cs.map fun c => (⟨#[c]⟩ : Str)) := by
    have := strs_map (xs := cs.map fun c => (⟨#[c]⟩ : Str))
    rwa [List.map_map] at this
  have e2 : ((cs.map fun c => (⟨#[c]⟩ : Str)).map (·.length)).sum + (cs.map fun c => (⟨#[c]⟩ : Str)).length * (Str.ofString "").length ≤ 16777216 := by
    rw [sum_ones, show (Str.ofString "").length = 0 from rfl]; omega
  have e3 : PySem.Txt.join "" (cs.map fun c => (⟨#[c]⟩ : Str)) = ⟨cs.toArray⟩ := by
    rw [TL.join_eq]
    exact str_ext (by rw [join_cs])
  simp only [joinP, v_seq_lst, e1]
  rw [if_pos e2]
  congr
theorem k_read_text (ra : RAt E) (hi : S_item (E.m "item")) : S_read_text (bodyF n_Reader_read_text (b_Reader_read_text E)) := fun vs pre x post least e h1 h8 hc => by
  refine call_live (h := [rdr vs pre.length]) (h' := [rdr vs (pre.length + (ti x).length)]) ?_ rfl rfl low_r rfl
  have e0 : vs[pre.length]? = some (x.length : Int) := by rw [e]; simp [ti]
  have c0 := hi vs pre.length x.length least 8 e0 h1 (by omega)
  have hxl : x.cps.toList.length = x.length := by simp [Str.length]
  simp [bodyF, b_Reader_read_text, startD, n_Reader_read_text, x_V, met_r nm_item.1 nm_item.2, c0, inRng_nat (Nat.le_trans h8 (by decide : 8 ≤ 1000000))]
  rw [rngD_map]
  refine compF_P (fun r => outR (Out.andThen (Res.bindS _ (Res.bind (Res.bind r _) _) _) _) = _) (fun pr acc h' => acc = (x.cps.toList.take pr.length).map (fun c => D.str ⟨#[c]⟩) ∧ h' = [rdr vs (pre.length + 1 + pr.length)]) (by simp; omega) ⟨rfl, rfl⟩ ?_ ?_
  · rintro pr j po acc h' er ⟨rfl, rfl⟩
    have hj : pr.length < x.cps.toList.length := by
      have := congrArg List.length er
      simp only [List.length_range, List.length_append, List.length_cons] at this
      omega
    obtain ⟨c, hcx⟩ : ∃ c, x.cps.toList[pr.length]? = some c := ⟨_, List.getElem?_eq_getElem hj⟩
    have hm := hc c (List.mem_of_getElem? hcx)
    have ei : vs[pre.length + 1 + pr.length]? = some (sgn c) := by
      rw [e, List.append_assoc, List.getElem?_append_right (by omega)]
      rw [show pre.length + 1 + pr.length - pre.length = pr.length + 1 by omega]
      simp only [ti, List.cons_append, List.getElem?_cons_succ]
      rw [List.getElem?_append_left (by simpa using hj), List.getElem?_map, hcx]; rfl
    have ci := hi vs (pre.length + 1 + pr.length) (sgn c) least 26 ei hm.2 (sg_at hm.1).1
    refine ⟨.str ⟨#[c]⟩, _, ?_, ?_, rfl⟩
    · have l27 : lenO E.ow [.str dsigns] [rdr vs (pre.length + 1 + pr.length)] = some (.int 27, [rdr vs (pre.length + 1 + pr.length)]) := v_len_str (by decide +kernel)
      simp [x_V, met_r nm_item.1 nm_item.2, show (".abcdefghijklmnopqrstuvwxyz" : Str) = dsigns from rfl, l27, ci, v_item_sg hm.1]
      rfl
    · rw [List.length_append, List.length_singleton, List.take_add_one, hcx]; simp
  · rintro acc h' ⟨rfl, rfl⟩ _
    have et : List.take (List.range x.length).length x.cps.toList = x.cps.toList := by
      rw [List.length_range]; exact List.take_of_length_le (by omega)
    rw [et]
    simp only [x_bind_ok, kL2_a, x_mkL_f, x_of_some, kC1_a, kC2_a, x_alNil, kM2_a]
    rw [join_chars (by omega)]
    simp [ti_len, Nat.add_assoc, Nat.add_comm]
theorem v_ne_ii {ow : OwnV} {h : List O} {i j : Int} : neO ow (.int i) (.int j) h = some (.bl (!(i == j)), h) := by rw [v_ne (by simp) (by simp)]; simp
theorem v_eq_ii {ow : OwnV} {h : List O} {i j : Int} : eqO ow (.int i) (.int j) h = some (.bl (i == j), h) := by rw [v_eq (by simp) (by simp)]; simp
theorem k_read_manner (ra : RAt E) (hi : S_item (E.m "item")) : S_read_manner (bodyF n_Reader_read_manner (b_Reader_read_manner E)) := fun vs pre m post n b e ok h6 hb6 => by
  refine call_live (h := [rdr vs pre.length]) (h' := [rdr vs (pre.length + (mi m).length)]) ?_ rfl low_mn low_r rfl
  cases m with
  | back =>
    have c0 := hi vs pre.length 0 0 2 (by rw [e]; simp [mi]) (by omega) (by omega)
    simp [bodyF, b_Reader_read_manner, startD, n_Reader_read_manner, x_V, met_r nm_item.1 nm_item.2, c0, v_ne_ii, v_eq_ii, mi, Mn.d]
  | keep =>
    have c0 := hi vs pre.length 1 0 2 (by rw [e]; simp [mi]) (by omega) (by omega)
    simp [bodyF, b_Reader_read_manner, startD, n_Reader_read_manner, x_V, met_r nm_item.1 nm_item.2, c0, v_ne_ii, v_eq_ii, mi, Mn.d]
  | guess g =>
    simp only [mnOk, Bool.and_eq_true, decide_eq_true_eq] at ok
    obtain ⟨hl, ha⟩ := ok
    have hbi : ∀ o ∈ g, 0 ≤ bi o ∧ bi o ≤ 6 ∧ (bi o = 6 ↔ o = none) := fun o ho => by
      have := List.all_eq_true.mp ha o ho
      cases o with
      | none => exact ⟨by decide, by decide, by simp [bi]⟩
      | some i =>
        simp only [Bool.and_eq_true, decide_eq_true_eq] at this
        refine ⟨this.1, by simp only [bi]; omega, ?_⟩
        simp only [bi]
        constructor
        · intro z; omega
        · intro z; cases z
    have c0 := hi vs pre.length 2 0 2 (by rw [e]; simp [mi]) (by omega) (by omega)
    simp [bodyF, b_Reader_read_manner, startD, n_Reader_read_manner, x_V, met_r nm_item.1 nm_item.2, c0, v_ne_ii, inRng_nat (Nat.le_trans h6 (by decide : 6 ≤ 1000000))]
    rw [rngD_map]
    refine compF_P (fun r => outR (Out.andThen (Res.bindS _ r _) _) = _) (fun pr acc h' => acc = (g.take pr.length).map (fun o => D.int (bi o)) ∧ h' = [rdr vs (pre.length + 1 + pr.length)]) ?_ ⟨by simp, rfl⟩ ?_ ?_
    · rw [List.length_range]; omega
    · rintro pr j po acc h' er ⟨rfl, rfl⟩
      have hj : pr.length < g.length := by
        have := congrArg List.length er
        simp only [List.length_range, List.length_append, List.length_cons] at this
        omega
      obtain ⟨c, hcx⟩ : ∃ c, g[pr.length]? = some c := ⟨_, List.getElem?_eq_getElem hj⟩
      have hm := hbi c (List.mem_of_getElem? hcx)
      have ei : vs[pre.length + 1 + pr.length]? = some (bi c) := by
        rw [e, List.append_assoc, List.getElem?_append_right (by omega)]
        rw [show pre.length + 1 + pr.length - pre.length = pr.length + 1 by omega]
        simp only [mi, List.cons_append, List.getElem?_cons_succ]
        rw [List.getElem?_append_left (by simpa using hj), List.getElem?_map, hcx]; rfl
      have ci := hi vs (pre.length + 1 + pr.length) (bi c) 0 6 ei hm.1 hm.2.1
      refine ⟨.int (bi c), _, ?_, ?_, rfl⟩
      · simp [x_V, met_r nm_item.1 nm_item.2, ci]
        rfl
      · rw [List.length_append, List.length_singleton, List.take_add_one, hcx]; simp
    · rintro acc h' ⟨rfl, rfl⟩ _
      have et : List.take (List.range n).length g = g := by
        rw [List.length_range]; exact List.take_of_length_le (by omega)
      rw [et]
      simp [x_V]
      have em : (g.map fun o => D.int (bi o)) = (g.map bi).map D.int := by simp
      rw [compF_map (xs := g) (φ := fun o => D.int (bi o)) (g := oD) (by simp; omega) (fun o ho => by
        have := hbi o ho
        cases o with
        | none => simp [x_V, v_eq_ii, bi, oD]
        | some i =>
          have ne : (i == 6) = false := by rw [beq_eq_false_iff_ne]; exact fun z => by have := this.2.2.mp z; cases this
          simp [x_V, v_eq_ii, bi, oD, ne])]
      simp [Mn.d, mi, hl]
      congr 1; omega
theorem k_finish (ra : RAt E) (hc : S_checksum (E.f "checksum")) (hi : S_item (E.m "item")) : S_finish (bodyF n_Reader_finish (b_Reader_finish E)) := fun vs hl => by
  refine call_live (h := [rdr (vs ++ [chk vs]) vs.length]) (h' := [rdr (vs ++ [chk vs]) (vs.length + 1)]) ?_ rfl rfl low_r rfl
  have c0 := hi (vs ++ [chk vs]) vs.length (chk vs) (chk vs) (chk vs) (by simp) (by omega) (by omega)
  have ec : cutG ((vs ++ [chk vs]).map D.int) none (some (vs.length : Int)) = vs.map D.int := by
    rw [cut_to, ← List.map_take, List.take_left]
  have hb : ¬ ((vs.length : Int) + 1 < (vs.length : Int) + 1) := by omega
  simp [bodyF, b_Reader_finish, startD, n_Reader_finish, x_V, ra.data, ra.spot]
  simp only [List.map_append, List.map_cons, List.map_nil] at ec
  rw [ec]
  simp [hc.1, x_V, met_r nm_item.1 nm_item.2, c0, ra.data, ra.spot]
theorem nm_rt : (("read_text" : Str) == ("data" : Str)) = false ∧ (("read_text" : Str) == ("spot" : Str)) = false := by decide +kernel
theorem nm_rm : (("read_manner" : Str) == ("data" : Str)) = false ∧ (("read_manner" : Str) == ("spot" : Str)) = false := by decide +kernel
theorem nm_fi : (("finish" : Str) == ("data" : Str)) = false ∧ (("finish" : Str) == ("spot" : Str)) = false := by decide +kernel
def S_Reader (f : FnD) : Prop := ∀ vs : List Int, initF true 1 f [.lst (vs.map .int)] [] = .ok (.loc 0) [rdr vs 0]
theorem k_Reader (ra : RAt E) : S_Reader (bodyF n_Reader___init__ (b_Reader___init__ E)) := fun vs => by
  have : bodyF n_Reader___init__ (b_Reader___init__ E) [.loc 0, .lst (vs.map .int)] [.ind 1 []] = .ok .non [rdr vs 0] := by
    simp [bodyF, b_Reader___init__, startD, n_Reader___init__, x_V, setA, ra.data, ra.spot, putFD]
    rfl
  unfold initF
  show (match bodyF n_Reader___init__ (b_Reader___init__ E) [.loc 0, .lst (vs.map .int)] [.ind 1 []] with | .ok .non h' => _ | .ok _ _ => _ | .ex a b c => _ | .no => _) = _
  rw [this]; rfl
theorem take_flat {α : Type} {f : α → List Int} {l : List α} {j : Nat} {c : α} (h : l[j]? = some c) : l.flatMap f = (l.take j).flatMap f ++ f c ++ (l.drop (j + 1)).flatMap f := by
  have h1 := (List.getElem?_eq_some_iff.mp h).1
  have h2 := (List.getElem?_eq_some_iff.mp h).2
  conv => lhs; rw [← List.take_append_drop j l, List.drop_eq_getElem_cons h1, h2]
  simp
theorem sg0 {x : Str} (hx : x = "" ∨ isText x abcp = true) : ∀ c ∈ x.cps.toList, c ∈ abcp.cps.toList ∧ (0 : Int) ≤ sgn c := fun c hc => by
  have h1 := (txt_mem hx).2 c hc
  have := List.all_eq_true.mp sg_all c h1
  simp only [Bool.and_eq_true, decide_eq_true_eq] at this
  exact ⟨h1, this.1.1⟩
theorem sg1 {x : Str} (hx : isText x abc = true) : ∀ c ∈ x.cps.toList, c ∈ abcp.cps.toList ∧ (1 : Int) ≤ sgn c := fun c hc => by
  have h1 := (txt_mem (.inr (abc_sub hx))).2 c hc
  refine ⟨h1, ?_⟩
  have ha : (abc.cps.toList.all fun c => decide ((1 : Int) ≤ sgn c)) = true := by decide +kernel
  simp only [isText, Bool.and_eq_true, List.all_eq_true, decide_eq_true_eq] at hx
  simpa using List.all_eq_true.mp ha c (hx.2 c hc)
theorem keys_strs : ∀ {xs : List Str}, keysD (xs.map D.str) = some (xs.map Sum.inr)
  | [] => rfl
  | x :: r => by
    have := keys_strs (xs := r)
    simp only [List.map_cons, keysD, keyD, this]
theorem zip_dic {H : Hs} : (H.names.map (Sum.inr : Str → Key)).zip (H.ways.map Mn.d) = H.dic := by
  rw [List.zip_map]; rfl
theorem k_decode (hE : HEnv E) (ra : RAt E) (hr : S_Reader (E.i "Reader")) (hi : S_item (E.m "item")) (ht : S_read_text (E.m "read_text")) (hm : S_read_manner (E.m "read_manner")) (hf : S_finish (E.m "finish")) (hh : S_House (E.i "House")) :
    S_decode (bodyF n_decode_house (b_decode_house E)) := fun h H ok => by
  have hp6 := ok.p6
  have hp1 := ok.p1
  have hn1 := ok.n1
  have hn6 := ok.n6
  have hw6 : H.ways.length ≤ 6 := by rw [ok.wl]; exact ok.n6
  have fp := flat_len6 (pl_ti ok) hp6
  have fn := flat_len6 (nm_ti ok) hn6
  have fw := flat_len6 (wy_mi ok) hw6
  have le : (enc H).length ≤ 1000 := by simp [enc, -List.length_flatMap]; omega
  refine call_low (by simp only [lowDs, lowD, Bool.and_true]; exact low_ints) (h' := [rdr (enc H ++ [chk (enc H)]) ((enc H).length + 1)]) ?_ low_d
  obtain ⟨vs, ev⟩ : ∃ vs, vs = enc H ++ [chk (enc H)] := ⟨_, rfl⟩
  rw [← ev]
  have ev2 : vs = [66, (H.plates.length : Int)] ++ H.plates.flatMap ti ++ [(H.names.length : Int)] ++ H.names.flatMap ti ++ H.ways.flatMap mi ++ [chk (enc H)] := ev
  have c0 := hi vs 0 66 66 66 (by rw [ev2]; rfl) (by omega) (by omega)
  have c1 := hi vs 1 H.plates.length 1 6 (by rw [ev2]; rfl) (by omega) (by omega)
  have eA : ([66, (H.plates.length : Int)] ++ H.plates.flatMap ti).length = 2 + (H.plates.flatMap ti).length := by simp [-List.length_flatMap]; omega
  have c2 := hi vs (2 + (H.plates.flatMap ti).length) H.names.length 1 6 (by
    rw [show vs = ([66, (H.plates.length : Int)] ++ H.plates.flatMap ti) ++ (H.names.length : Int) :: (H.names.flatMap ti ++ H.ways.flatMap mi ++ [chk (enc H)]) by rw [ev2]; simp, ← eA]
    exact ge1) (by omega) (by omega)
  simp [bodyF, b_decode_house, startD, n_decode_house, x_V, hr vs, met_r nm_item.1 nm_item.2, c0, c1, inRng_nat (Nat.le_trans hp6 (by decide : 6 ≤ 1000000))]
  rw [rngD_map]
  refine compF_P (fun r => outR (Out.andThen (Res.bindS _ r _) _) = _) (fun pr acc h' => acc = (H.plates.take pr.length).map D.str ∧ h' = [rdr vs (2 + ((H.plates.take pr.length).flatMap ti).length)]) ?_ ⟨by simp, by simp⟩ ?_ ?_
  · rw [List.length_range]; omega
  · rintro pr j po acc h' er ⟨rfl, rfl⟩
    have hj : pr.length < H.plates.length := by
      have := congrArg List.length er
      simp only [List.length_range, List.length_append, List.length_cons] at this
      omega
    obtain ⟨c, hcx⟩ : ∃ c, H.plates[pr.length]? = some c := ⟨_, List.getElem?_eq_getElem hj⟩
    have hcm := ok.pl c (List.mem_of_getElem? hcx)
    have ci := ht vs ([66, (H.plates.length : Int)] ++ (H.plates.take pr.length).flatMap ti) c ((H.plates.drop (pr.length + 1)).flatMap ti ++ [(H.names.length : Int)] ++ H.names.flatMap ti ++ H.ways.flatMap mi ++ [chk (enc H)]) 0 (by rw [ev2, take_flat hcx]; simp) (by omega) (txt_mem hcm).1 (sg0 hcm)
    have el : ([66, (H.plates.length : Int)] ++ (H.plates.take pr.length).flatMap ti).length = 2 + ((H.plates.take pr.length).flatMap ti).length := by simp [-List.length_flatMap]; omega
    rw [el] at ci
    refine ⟨.str c, [rdr vs (2 + ((H.plates.take pr.length).flatMap ti).length + (ti c).length)], ?_, ?_, ?_⟩
    · simp [x_V, met_r nm_rt.1 nm_rt.2, ci, -List.length_flatMap]
    · rw [List.length_append, List.length_singleton, List.take_add_one, hcx]; simp
    · rw [List.length_append, List.length_singleton, List.take_add_one, hcx]; simp [Nat.add_assoc]
  rintro acc h' ⟨rfl, rfl⟩ _
  have et : H.plates.take (List.range H.plates.length).length = H.plates := by rw [List.length_range, List.take_length]
  rw [et]
  simp [x_V, met_r nm_item.1 nm_item.2, c2, inRng_nat (Nat.le_trans hn6 (by decide : 6 ≤ 1000000)), -List.length_flatMap]
  rw [rngD_map]
  refine compF_P (fun r => outR (Out.andThen (Res.bindS _ r _) _) = _) (fun pr acc h' => acc = (H.names.take pr.length).map D.str ∧ h' = [rdr vs (2 + (H.plates.flatMap ti).length + 1 + ((H.names.take pr.length).flatMap ti).length)]) ?_ ⟨by simp, by simp⟩ ?_ ?_
  · rw [List.length_range]; omega
  · rintro pr j po acc h' er ⟨rfl, rfl⟩
    have hj : pr.length < H.names.length := by
      have := congrArg List.length er
      simp only [List.length_range, List.length_append, List.length_cons] at this
      omega
    obtain ⟨c, hcx⟩ : ∃ c, H.names[pr.length]? = some c := ⟨_, List.getElem?_eq_getElem hj⟩
    have hct := ok.txt c (List.mem_of_getElem? hcx)
    have hl1 : 1 ≤ c.length := by simp only [isText, Bool.and_eq_true, decide_eq_true_eq] at hct; exact hct.1.1
    have ci := ht vs ([66, (H.plates.length : Int)] ++ H.plates.flatMap ti ++ [(H.names.length : Int)] ++ (H.names.take pr.length).flatMap ti) c ((H.names.drop (pr.length + 1)).flatMap ti ++ H.ways.flatMap mi ++ [chk (enc H)]) 1 (by rw [ev2, take_flat hcx]; simp) (by omega) (txt_len hct) (sg1 hct)
    have el : ([66, (H.plates.length : Int)] ++ H.plates.flatMap ti ++ [(H.names.length : Int)] ++ (H.names.take pr.length).flatMap ti).length = 2 + (H.plates.flatMap ti).length + 1 + ((H.names.take pr.length).flatMap ti).length := by simp [-List.length_flatMap]; omega
    rw [el] at ci
    refine ⟨.str c, [rdr vs (2 + (H.plates.flatMap ti).length + 1 + ((H.names.take pr.length).flatMap ti).length + (ti c).length)], ?_, ?_, ?_⟩
    · simp [x_V, met_r nm_rt.1 nm_rt.2, ci, -List.length_flatMap]
    · rw [List.length_append, List.length_singleton, List.take_add_one, hcx]; simp
    · rw [List.length_append, List.length_singleton, List.take_add_one, hcx]; simp [Nat.add_assoc]
  rintro acc h' ⟨rfl, rfl⟩ _
  have et : H.names.take (List.range H.names.length).length = H.names := by rw [List.length_range, List.take_length]
  rw [et]
  simp [x_V, -List.length_flatMap]
  refine compF_P (fun r => outR (Out.andThen (Res.bindS _ r _) _) = _) (fun pr acc h' => acc = (H.ways.take pr.length).map Mn.d ∧ h' = [rdr vs (2 + (H.plates.flatMap ti).length + 1 + (H.names.flatMap ti).length + ((H.ways.take pr.length).flatMap mi).length)]) (by omega) ⟨by simp, by simp⟩ ?_ ?_
  · rintro pr j po acc h' er ⟨rfl, rfl⟩
    have hj : pr.length < H.ways.length := by
      have := congrArg List.length er
      simp only [List.length_append, List.length_cons] at this
      rw [ok.wl]; omega
    obtain ⟨c, hcx⟩ : ∃ c, H.ways[pr.length]? = some c := ⟨_, List.getElem?_eq_getElem hj⟩
    have ci := hm vs ([66, (H.plates.length : Int)] ++ H.plates.flatMap ti ++ [(H.names.length : Int)] ++ H.names.flatMap ti ++ (H.ways.take pr.length).flatMap mi) c ((H.ways.drop (pr.length + 1)).flatMap mi ++ [chk (enc H)]) H.names.length H.plates.length (by rw [ev2, take_flat hcx]; simp) (ok.wo c (List.mem_of_getElem? hcx)) hn6 hp6
    have el : ([66, (H.plates.length : Int)] ++ H.plates.flatMap ti ++ [(H.names.length : Int)] ++ H.names.flatMap ti ++ (H.ways.take pr.length).flatMap mi).length = 2 + (H.plates.flatMap ti).length + 1 + (H.names.flatMap ti).length + ((H.ways.take pr.length).flatMap mi).length := by simp [-List.length_flatMap]; omega
    rw [el] at ci
    refine ⟨c.d, [rdr vs (2 + (H.plates.flatMap ti).length + 1 + (H.names.flatMap ti).length + ((H.ways.take pr.length).flatMap mi).length + (mi c).length)], ?_, ?_, ?_⟩
    · simp [x_V, met_r nm_rm.1 nm_rm.2, ci, -List.length_flatMap]
    · rw [List.length_append, List.length_singleton, List.take_add_one, hcx]; simp
    · rw [List.length_append, List.length_singleton, List.take_add_one, hcx]; simp [Nat.add_assoc]
  rintro acc h' ⟨rfl, rfl⟩ _
  have et : H.ways.take H.names.length = H.ways := by rw [← ok.wl, List.take_length]
  rw [et]
  have el : 2 + (H.plates.flatMap ti).length + 1 + (H.names.flatMap ti).length + (H.ways.flatMap mi).length = (enc H).length := by simp [enc, -List.length_flatMap]; omega
  rw [el]
  have cf := hf (enc H) le
  rw [← ev] at cf
  have ch := hh [rdr vs ((enc H).length + 1)] (.dic H.dic) H ok rfl low_r (low_frd (n := 2) frdk_dic)
  have hz : H.names.length ≤ sizeLine := Nat.le_trans hn6 (by decide)
  have edz : acDZ false (acV 3) (acV 4) [some (.lst (vs.map .int)), some (.loc 0), some (.lst (H.plates.map .str)), some (.lst (H.names.map .str)), some (.lst (H.ways.map Mn.d)), none, none] [rdr vs ((enc H).length + 1)] = .ok (.dic H.dic) [rdr vs ((enc H).length + 1)] := by
    simp [acDZ, x_V, keys_strs, hz, zip_dic, dic_of_items ok]
  simp [x_V, met_r nm_fi.1 nm_fi.2, cf, edz, ch]
end
end Lp
namespace Lp
open PySem L2 Lo
def rowO (cs : List Int) (p m g : Int) : O := .lst [.scr (cs.map D.int), .int p, .int m, .int g]
def IsRow (o : O) : Prop := ∃ cs p m g, o = rowO cs p m g ∧ 0 ≤ p ∧ 0 ≤ m ∧ m < 2147483647 ∧ 0 ≤ g
def S_taken (f : FnD) : Prop := ∀ r rest (many : Int), IsRow r → 0 < many → many < 1000000 → LowH (r :: rest) → ∃ v r', callM f [.loc 0, .int many] (r :: rest) = .ok (.int v) (r' :: rest) ∧ 0 ≤ v ∧ v < many ∧ IsRow r' ∧ LowH (r' :: rest)
theorem low_row {k : Nat} {cs : List Int} {p m g : Int} : lowO k (rowO cs p m g) = true := by
  simp [rowO, lowO, lowDs, lowD, low_ints]
theorem IsRow.low {k : Nat} {r : O} (h : IsRow r) : lowO k r = true := by
  obtain ⟨cs, p, m, g, rfl, _⟩ := h
  exact low_row
theorem LowH.row {r r' : O} {rest : List O} (h : LowH (r :: rest)) (hr : IsRow r') : LowH (r' :: rest) := fun o ho => by
  rcases List.mem_cons.mp ho with rfl | ho
  · exact hr.low
  · exact h o (List.mem_cons_of_mem _ ho)
section
variable {E : PEnv}
theorem sm48 {c : Int} : small64 c = true ∨ small64 48271 = true := .inr (by decide)
theorem k_taken : S_taken (bodyF n__law_taken (b__law_taken E)) := fun r rest many hr h1 h2 lh => by
  obtain ⟨cs, p, m, g, rfl, hp, hm, hm2, hg⟩ := hr
  have run : ∃ v r', bodyF n__law_taken (b__law_taken E) [.loc 0, .int many] (rowO cs p m g :: rest) = .ok (.int v) (r' :: rest) ∧ 0 ≤ v ∧ v < many ∧ IsRow r' := by
    have hmo := Int.emod_nonneg
    by_cases h0 : 0 < g
    · refine ⟨g % many, rowO cs p m (g / many), ?_, Int.emod_nonneg _ (by omega), Int.emod_lt_of_pos _ h1, cs, p, m, g / many, rfl, hp, hm, hm2, Int.ediv_nonneg hg (by omega)⟩
      simp [bodyF, b__law_taken, startD, n__law_taken, x_V, rowO, v_item_loc (h := O.lst _ :: rest) (n := 0) rfl, atI, ixN, h0, v_mod h1, v_fdiv h1 (by omega : many < 1073741824), setI]
    · have e0 : ¬ (0 < g) := h0
      by_cases hl : (cs.length : Int) < p + 1
      · refine ⟨(m * 48271 + 11) % 2147483647 / 7 % many, rowO cs (p + 1) ((m * 48271 + 11) % 2147483647) g, ?_, Int.emod_nonneg _ (by omega), Int.emod_lt_of_pos _ h1, cs, p + 1, _, g, rfl, by omega, Int.emod_nonneg _ (by decide), Int.emod_lt_of_pos _ (by decide), hg⟩
        simp [bodyF, b__law_taken, startD, n__law_taken, x_V, rowO, v_item_loc (h := O.lst _ :: rest) (n := 0) rfl, atI, ixN, h0, v_mod h1, v_mod (show (0 : Int) < 2147483647 by decide), v_fdiv (show (0 : Int) < 7 by decide) (by decide), setI, hl, v_mul sm48]
      · have hx : 0 ≤ p ∧ p < cs.length := by omega
        have ec : (cs.map D.int)[p.toNat]? = some (.int (cs[p.toNat]'(by omega))) := by
          rw [List.getElem?_map, List.getElem?_eq_getElem (by omega)]; rfl
        obtain ⟨c, hc⟩ : ∃ c, c = cs[p.toNat]'(by omega) := ⟨_, rfl⟩
        rw [← hc] at ec
        have e3 : p + 1 - 1 = p := by omega
        have hlt : p < (cs.length : Int) := hx.2
        by_cases hb : 1000000000000000000 ≤ c
        · refine ⟨c % many, rowO cs (p + 1) ((m * 48271 + c + 11) % 2147483647) (c / many), ?_, Int.emod_nonneg _ (by omega), Int.emod_lt_of_pos _ h1, cs, p + 1, _, _, rfl, by omega, Int.emod_nonneg _ (by decide), Int.emod_lt_of_pos _ (by decide), Int.ediv_nonneg (by omega) (by omega)⟩
          simp [bodyF, b__law_taken, startD, n__law_taken, x_V, rowO, v_item_loc (h := O.lst _ :: rest) (n := 0) rfl, atI, ixN, h0, v_mod h1, v_mod (show (0 : Int) < 2147483647 by decide), v_fdiv h1 (by omega : many < 1073741824), setI, hl, v_mul sm48, e3, hp, hlt, ec, ← hc, powP, intP, powOk, hb, x_V, v_mod h1]
        · refine ⟨c % many, rowO cs (p + 1) ((m * 48271 + c + 11) % 2147483647) g, ?_, Int.emod_nonneg _ (by omega), Int.emod_lt_of_pos _ h1, cs, p + 1, _, _, rfl, by omega, Int.emod_nonneg _ (by decide), Int.emod_lt_of_pos _ (by decide), hg⟩
          simp [bodyF, b__law_taken, startD, n__law_taken, x_V, rowO, v_item_loc (h := O.lst _ :: rest) (n := 0) rfl, atI, ixN, h0, v_mod h1, v_mod (show (0 : Int) < 2147483647 by decide), v_fdiv h1 (by omega : many < 1073741824), setI, hl, v_mul sm48, e3, hp, hlt, ec, ← hc, powP, intP, powOk, hb, x_V, v_mod h1]
  obtain ⟨v, r', e, h3, h4, h5⟩ := run
  exact ⟨v, r', call_live e rfl rfl (LowH.row lh h5) rfl, h3, h4, h5, LowH.row lh h5⟩
theorem ga {rest l : List O} {a : O} : (rest ++ a :: l)[rest.length]? = some a := by simp
theorem gb {rest l : List O} {a b : O} : (rest ++ a :: b :: l)[rest.length + 1]? = some b := by
  rw [List.getElem?_append_right (by omega)]; simp
theorem sa {rest l : List O} {a a' : O} : (rest ++ a :: l).set rest.length a' = rest ++ a' :: l := by
  rw [List.set_append_right _ _ (Nat.le_refl _)]; simp
theorem sb {rest l : List O} {a b b' : O} : (rest ++ a :: b :: l).set (rest.length + 1) b' = rest ++ a :: b' :: l := by
  rw [List.set_append_right _ _ (by omega)]; simp
def pls : List Str := ["", "", "", "ant", "b..", "...", ".a.", "cat", "", "c.t"]
def gus : List (Option Int) := [none, some 0, some 1, some 2, some 3, some 1]
def nms : List Str := ["ant", "bee", "cat"]
theorem pls_ok : ∀ p ∈ pls, p = "" ∨ isText p abcp = true := by
  have : (pls.all fun p => decide (p = "") || isText p abcp) = true := by decide +kernel
  intro p hp
  have := List.all_eq_true.mp this p hp
  simpa using this
theorem pick_of {α : Type} {xs : List α} {f : α → D} {v : Int} {n : Nat} (hn : xs.length = n) (h0 : 0 ≤ v) (h1 : v < n) : ∃ x ∈ xs, atI (xs.map f) v = some (f x) := by
  have hv : v.toNat < xs.length := by omega
  refine ⟨xs[v.toNat], List.getElem_mem _, ?_⟩
  rw [v_ix h0, List.getElem?_map, List.getElem?_eq_getElem hv]; rfl
theorem putD_new {kvs : List (Key × D)} {k : Key} {d : D} (h : ∀ p ∈ kvs, p.1 ≠ k) : putD kvs k d = kvs ++ [(k, d)] := by
  unfold putD
  rw [if_neg]
  rw [Bool.not_eq_true, List.any_eq_false]
  intro x hx
  simpa using h x hx
def Drawn (H : Hs) : Prop := H.Ok ∧ (∃ n, H.names = nms.take (n + 1) ∧ n < 3) ∧ (H.plates.length = H.names.length ∨ H.plates.length = H.names.length + 1)
def S_house (f : FnD) : Prop := ∀ r rest, IsRow r → LowH (r :: rest) → ∃ H r', callM f [.loc 0] (r :: rest) = .ok H.d (r' :: rest) ∧ Drawn H ∧ IsRow r' ∧ LowH (r' :: rest)
theorem dic_app {ns : List Str} {ws : List Mn} {x : Str} {m : Mn} (hl : ws.length = ns.length) : (Hs.mk (ns ++ [x]) [] (ws ++ [m])).dic = (Hs.mk ns [] ws).dic ++ [(.inr x, m.d)] := by
  simp only [Hs.dic]
  rw [List.zip_append hl.symm]
  simp
theorem low_dic {k : Nat} {H : Hs} : lowDk k H.dic = true := low_frdk (n := 1) frdk_dic
end
end Lp
namespace Lp
open PySem L2 Lo
section
variable {E : PEnv}
def I1 (rest : List O) (nm : List Str) (b : Nat) (pre : List Nat) (s : Sl) (h' : List O) : Prop := ∃ (r : O) (ps : List Str) (z1 z2 : Option D), IsRow r ∧ LowH (r :: rest) ∧ ps.length = pre.length ∧ (∀ p ∈ ps, p ∈ pls) ∧ h' = r :: (rest ++ [.lst (ps.map D.str), .dic []]) ∧ s = [some (.loc 0), some (.tup (nm.map D.str)), some (.int b), some (.loc (rest.length + 1)), some (.loc (rest.length + 1 + 1)), z1, none, z2, none, none, none, none]
def I2 (rest : List O) (nm : List Str) (b : Nat) (ps : List Str) (pre : List Str) (s : Sl) (h' : List O) : Prop := ∃ (r : O) (ws : List Mn) (z1 z2 z3 z4 z5 : Option D), IsRow r ∧ LowH (r :: rest) ∧ ws.length = pre.length ∧ (∀ m ∈ ws, mnOk nm.length b m = true) ∧ h' = r :: (rest ++ [.lst (ps.map D.str), .dic (Hs.mk pre [] ws).dic]) ∧ s = [some (.loc 0), some (.tup (nm.map D.str)), some (.int b), some (.loc (rest.length + 1)), some (.loc (rest.length + 1 + 1)), z1, z2, z3, z4, z5, none, none]
def fx (b : Nat) : Option Int → Option Int
  | none => none
  | some i => if i < (b : Int) then some i else some 0
theorem gus_ok : ∀ o ∈ gus, ∀ i, o = some i → 0 ≤ i := by
  have : (gus.all fun o => match o with | some i => decide (0 ≤ i) | none => true) = true := by decide
  intro o ho i hi
  have := List.all_eq_true.mp this o ho
  subst hi
  simpa using this
def I3 (rest : List O) (pre : List Str) (acc : List D) (h' : List O) : Prop := ∃ (r : O) (os : List (Option Int)), IsRow r ∧ os.length = pre.length ∧ (∀ o ∈ os, o ∈ gus) ∧ acc = os.map oD ∧ h' = r :: rest
theorem r_house (ht : S_taken (E.f "_law_taken")) (hh : S_House (E.i "House")) {r : O} {rest : List O} (hr : IsRow r) (lh : LowH (r :: rest)) :
    ∃ H r' new, bodyF n__law_house (b__law_house E) [.loc 0] (r :: rest) = .ok H.d ((r' :: rest) ++ new) ∧ Drawn H ∧ IsRow r' ∧ LowH (r' :: rest) := by
  suffices hP : ∀ P : Res D → Prop, (∀ H r' new, Drawn H → IsRow r' → LowH (r' :: rest) → P (.ok H.d ((r' :: rest) ++ new))) → P (bodyF n__law_house (b__law_house E) [.loc 0] (r :: rest)) from
    hP (fun res => ∃ H r' new, res = .ok H.d ((r' :: rest) ++ new) ∧ Drawn H ∧ IsRow r' ∧ LowH (r' :: rest)) fun H r' new a b c => ⟨H, r', new, rfl, a, b, c⟩
  intro P fin
  obtain ⟨v, r1, e1, v0, v1, hr1, lh1⟩ := ht r rest 3 hr (by decide) (by decide) lh
  obtain ⟨n, hn⟩ : ∃ n : Nat, v = n := ⟨v.toNat, by omega⟩
  subst hn
  have hn3 : n < 3 := by omega
  obtain ⟨nm, enm⟩ : ∃ nm, nm = nms.take (n + 1) := ⟨_, rfl⟩
  have lnm : nm.length = n + 1 := by rw [enm]; simp [nms]; omega
  have ecut : cutG [D.str "ant", D.str "bee", D.str "cat"] none (some (1 + (n : Int))) = nm.map D.str := by
    rw [show (1 : Int) + (n : Int) = ((n + 1 : Nat) : Int) by omega, cut_to, show [D.str "ant", D.str "bee", D.str "cat"] = nms.map D.str from rfl, ← List.map_take, enm]
  obtain ⟨w, r2, e2, w0, w1, hr2, lh2⟩ := ht r1 rest 2 hr1 (by decide) (by decide) lh1
  obtain ⟨b, hb⟩ : ∃ b : Nat, (b : Int) = (nm.length : Int) + w := ⟨((nm.length : Int) + w).toNat, by omega⟩
  have hb4 : b ≤ 4 := by omega
  simp [bodyF, b__law_house, startD, n__law_house, x_V, v_tup, e1, ecut, e2, ← hb, v_list, inRng_nat (show b ≤ 1000000 by omega)]
  rw [rngD_map]
  have lowS : ∀ {k : Nat} {ps : List Str}, lowO k (.lst (ps.map D.str)) = true := fun {k ps} => low_strs
  have lowT : ∀ {r : O} {ps : List Str} {kvs : List (Key × D)}, LowH (r :: rest) → lowDk (rest.length + 3) kvs = true → LowH (r :: (rest ++ [.lst (ps.map D.str), .dic kvs])) := fun {r ps kvs} l lk => by
    have a := l.push (o := .lst (ps.map D.str)) lowS
    have c := a.push (o := .dic kvs) (by simpa [lowO] using lk)
    simpa using c
  refine forF_N (fun o => P (outR o)) (I1 rest nm b) ⟨r2, [], none, none, hr2, lh2, rfl, by simp, rfl, rfl⟩ ?_ ?_
  · rintro pre x post s h' ex ⟨r, ps, z1, z2, hr, lr, hl, hp, rfl, rfl⟩
    have hpl : ps.length ≤ 4 := by
      have := congrArg List.length ex
      simp only [List.length_range, List.length_append, List.length_cons] at this
      omega
    obtain ⟨v, r3, e3, v0, v1, hr3, lh3⟩ := ht r (rest ++ [.lst (ps.map D.str), .dic []]) 2 hr (by decide) (by decide) (lowT lr rfl)
    have lr3 : LowH (r3 :: rest) := LowH.row lr hr3
    by_cases hv : v = 0
    · obtain ⟨u, r4, e4, u0, u1, hr4, lh4⟩ := ht r3 (rest ++ [.lst (ps.map D.str), .dic []]) 10 hr3 (by decide) (by decide) lh3
      obtain ⟨q, hq, eq⟩ := pick_of (xs := pls) (f := D.str) (n := 10) rfl u0 u1
      have eq' : atI [D.str "", D.str "", D.str "", D.str "ant", D.str "b..", D.str "...", D.str ".a.", D.str "cat", D.str "", D.str "c.t"] u = some (.str q) := eq
      simp [x_V, v_list, e3, hv, v_eq_ii, e4, eq', ty_loc (h := r3 :: (rest ++ [.lst (ps.map D.str), .dic []])) (n := rest.length + 1) (xs := ps.map D.str) (by simp [ga]), ty_loc (h := r :: (rest ++ [.lst (ps.map D.str), .dic []])) (n := rest.length + 1) (xs := ps.map D.str) (by simp [ga]), v_append (h := r4 :: (rest ++ [.lst (ps.map D.str), .dic []])) (n := rest.length + 1) (xs := ps.map D.str) (by simp [ga]) (by simp; omega), sa]
      refine ⟨r4, ps ++ [q], some (.int x), _, hr4, LowH.row lr hr4, by simp [hl], ?_, by simp, by simp; rfl⟩
      intro p hp2
      rcases List.mem_append.mp hp2 with h | h
      · exact hp p h
      · rw [List.mem_singleton.mp h]; exact hq
    · have hv' : (v == 0) = false := by rw [beq_eq_false_iff_ne]; exact hv
      simp [x_V, v_list, e3, hv', v_eq_ii, ty_loc (h := r :: (rest ++ [.lst (ps.map D.str), .dic []])) (n := rest.length + 1) (xs := ps.map D.str) (by simp [ga]), v_append (h := r3 :: (rest ++ [.lst (ps.map D.str), .dic []])) (n := rest.length + 1) (xs := ps.map D.str) (by simp [ga]) (by simp; omega), sa]
      refine ⟨r3, ps ++ [("" : Str)], some (.int x), _, hr3, lr3, by simp [hl], ?_, by simp, by simp; rfl⟩
      intro p hp2
      rcases List.mem_append.mp hp2 with h | h
      · exact hp p h
      · rw [List.mem_singleton.mp h]; simp [pls]
  rintro s h' ⟨r, ps, z1, z2, hr, lr, hl, hp, rfl, rfl⟩
  rw [List.length_range] at hl
  simp [x_V]
  have nmne : nm.Nodup := by rw [enm]; exact List.Nodup.sublist (List.take_sublist _ _) (by decide +kernel)
  refine forF_N (fun o => P (outR o)) (I2 rest nm b ps) ⟨r, [], z1, none, z2, none, none, hr, lr, rfl, by simp, rfl, rfl⟩ ?_ ?_
  · rintro pre x post s h' ex ⟨r, ws, z1, z2, z3, z4, z5, hr, lr, hwl, hw, rfl, rfl⟩
    have lw : LowH (r :: (rest ++ [.lst (ps.map D.str), .dic (Hs.mk pre [] ws).dic])) := lowT lr low_dic
    obtain ⟨v, r3, e3, v0, v1, hr3, lh3⟩ := ht r (rest ++ [.lst (ps.map D.str), .dic (Hs.mk pre [] ws).dic]) 6 hr (by decide) (by decide) lw
    simp [x_V, e3]
    refine compF_N (fun r => NX (Out.andThen (Res.bindS _ (Res.bind (Res.bind r _) _) _) _) _) (I3 (rest ++ [.lst (ps.map D.str), .dic (Hs.mk pre [] ws).dic])) (by omega) ⟨r3, [], hr3, rfl, by simp, rfl, rfl⟩ ?_ ?_
    · rintro pr y po acc h' ey ⟨r, os, hr, hol, hog, rfl, rfl⟩
      obtain ⟨u, r4, e4, u0, u1, hr4, lh4⟩ := ht r (rest ++ [.lst (ps.map D.str), .dic (Hs.mk pre [] ws).dic]) 6 hr (by decide) (by decide) (LowH.row lw hr)
      obtain ⟨q, hq, eq⟩ := pick_of (xs := gus) (f := oD) (n := 6) rfl u0 u1
      have eq' : atI [D.non, D.int 0, D.int 1, D.int 2, D.int 3, D.int 1] u = some (oD q) := eq
      simp [x_V, v_list, e4, eq']
      refine ⟨r4, os ++ [q], hr4, by simp [hol], ?_, by simp, rfl⟩
      intro o ho
      rcases List.mem_append.mp ho with h | h
      · exact hog o h
      · rw [List.mem_singleton.mp h]; exact hq
    rintro acc h' ⟨r5, os, hr5, hol, hog, rfl, rfl⟩ _
    simp [x_V]
    have hb1 : 1 ≤ b := by omega
    rw [compF_map (g := fun o => oD (fx b o)) (by simp; omega) (fun o ho => by
      have := gus_ok o (hog o ho)
      cases o with
      | none => simp [x_V, oD, fx]
      | some i =>
        by_cases hi : i < (b : Int)
        · simp [x_V, oD, fx, hi]
        · simp [x_V, oD, fx, hi])]
    have hdic : (r5 :: (rest ++ [.lst (ps.map D.str), .dic (Hs.mk pre [] ws).dic]))[rest.length + 1 + 1]? = some (.dic (Hs.mk pre [] ws).dic) := by
      rw [List.getElem?_cons_succ]; exact gb
    have hxn : ∀ p ∈ (Hs.mk pre [] ws).dic, p.1 ≠ (Sum.inr x : Key) := fun p hp e => by
      unfold Hs.dic at hp
      obtain ⟨q, hq, rfl⟩ := List.mem_map.mp hp
      have h1 := (List.of_mem_zip hq).1
      rw [Sum.inr.inj e] at h1
      rw [ex] at nmne
      have := (List.nodup_append.mp nmne).2.2 x h1 x List.mem_cons_self
      exact this rfl
    have hprl : pre.length ≤ 6 := by
      have := congrArg List.length ex
      simp only [List.length_append, List.length_cons] at this
      omega
    have hkl : (Hs.mk pre [] ws).dic.length < sizeLine := by
      simp only [Hs.dic, List.length_map, List.length_zip]
      exact Nat.lt_of_le_of_lt (Nat.min_le_left _ _) (Nat.lt_of_le_of_lt hprl (by decide))
    have hset : ∀ m : Mn, setI (.loc (rest.length + 1 + 1)) (.str x) m.d (r5 :: (rest ++ [.lst (ps.map D.str), .dic (Hs.mk pre [] ws).dic])) = some (r5 :: (rest ++ [.lst (ps.map D.str), .dic (Hs.mk (pre ++ [x]) [] (ws ++ [m])).dic])) := fun m => by
      simp only [setI, hdic, keyD, if_pos hkl]
      rw [putD_new hxn, dic_app hwl, List.set_cons_succ, sb]
    have hbk := hset .back
    have hkp := hset .keep
    have hgu := hset (.guess (os.map (fx b)))
    simp only [Mn.d] at hbk hkp hgu
    have fin2 : ∀ m : Mn, mnOk nm.length b m = true → ∀ z5, I2 rest nm b ps (pre ++ [x]) [some (.loc 0), some (.tup (nm.map D.str)), some (.int b), some (.loc (rest.length + 1)), some (.loc (rest.length + 1 + 1)), z1, some (.str x), z3, some (.int v), z5, none, none] (r5 :: (rest ++ [.lst (ps.map D.str), .dic (Hs.mk (pre ++ [x]) [] (ws ++ [m])).dic])) := fun m hm z5 => by
      refine ⟨r5, ws ++ [m], z1, _, z3, _, z5, hr5, LowH.row lr hr5, by simp [hwl], ?_, rfl, rfl⟩
      intro m' hm'
      rcases List.mem_append.mp hm' with h | h
      · exact hw m' h
      · rw [List.mem_singleton.mp h]; exact hm
    simp only [List.map_map] at hgu
    have hgu2 : (os.map fun o => oD (fx b o)) = os.map (oD ∘ fx b) := rfl
    have hok3 : mnOk nm.length b (.guess (os.map (fx b))) = true := by
      simp only [mnOk, Bool.and_eq_true, decide_eq_true_eq, List.all_map, List.all_eq_true, Function.comp]
      refine ⟨by simp [hol], fun o ho => ?_⟩
      have := gus_ok o (hog o ho)
      cases o with
      | none => simp [fx]
      | some i =>
        have h0 := this i rfl
        by_cases hi : i < (b : Int)
        · simp [fx, hi, h0]
        · simp [fx, hi]; omega
    by_cases hv0 : v = 0
    · simp [x_V, v_eq_ii, hv0, hbk]
      exact hv0 ▸ fin2 .back rfl _
    · have hv0' : (v == 0) = false := by rw [beq_eq_false_iff_ne]; exact hv0
      by_cases hv1 : v = 1
      · simp [x_V, v_eq_ii, hv1, hkp]
        exact hv1 ▸ fin2 .keep rfl _
      · have hv1' : (v == 1) = false := by rw [beq_eq_false_iff_ne]; exact hv1
        simp [x_V, v_eq_ii, hv0', hv1', hgu2, hgu]
        exact fin2 (.guess (os.map (fx b))) hok3 _
  rintro s h' ⟨r, ws, z1, z2, z3, z4, z5, hr, lr, hwl, hw, rfl, rfl⟩
  obtain ⟨H, eH⟩ : ∃ H : Hs, H = ⟨nm, ps, ws⟩ := ⟨_, rfl⟩
  have ok : H.Ok := by
    subst eH
    have hsub : ∀ x ∈ nm, x ∈ nms := fun x hx => by rw [enm] at hx; exact List.mem_of_mem_take hx
    refine ⟨by simp only; omega, by simp only; omega, ?_, ?_, by simp only; omega, by simp only; omega, fun p h => pls_ok p (hp p h), hwl, fun m h => by simp only [hl]; exact hw m h⟩
    · simp only [enm]
      exact List.Pairwise.sublist (List.take_sublist _ _) (by decide +kernel)
    · have : (nms.all fun x => isText x abc) = true := by decide +kernel
      exact fun x hx => List.all_eq_true.mp this x (hsub x hx)
  have lw : LowH (r :: (rest ++ [.lst (ps.map D.str), .dic (Hs.mk nm [] ws).dic])) := lowT lr low_dic
  have ch := hh (r :: (rest ++ [.lst (ps.map D.str), .dic (Hs.mk nm [] ws).dic])) (.loc (rest.length + 1 + 1)) H ok (by
    simp only [dicOf]
    rw [List.getElem?_cons_succ, gb, eH]; rfl) lw (by simp [lowD])
  have e1 : H.names = nm := by rw [eH]
  have e2 : H.plates = ps := by rw [eH]
  rw [e1, e2] at ch
  simp [x_V, v_tupleP_loc (h := r :: (rest ++ [.lst (ps.map D.str), .dic (Hs.mk nm [] ws).dic])) (n := rest.length + 1) (xs := ps.map D.str) (by simp [ga]), ch]
  have := fin H r [.lst (ps.map D.str), .dic (Hs.mk nm [] ws).dic] ⟨ok, ⟨n, by rw [e1, enm], hn3⟩, by rw [e1, e2]; omega⟩ hr lr
  simpa using this
theorem k_house (ht : S_taken (E.f "_law_taken")) (hh : S_House (E.i "House")) : S_house (bodyF n__law_house (b__law_house E)) := fun r rest hr lh => by
  obtain ⟨H, r', new, e, d, h1, h2⟩ := r_house ht hh hr lh
  exact ⟨H, r', call_drop (h' := r' :: rest) e rfl (setD_low low_d) h2 rfl, d, h1, h2⟩
end
end Lp
namespace Lp
open PySem L2 Lo
def S_lchecked (f : FnD) : Prop := ∀ h n (xs : List Int), h[n]? = some (.lst (xs.map .int)) → LowH h → xs.length ≤ 100000 → callM f [.loc n] h = .ok (.lst ((xs ++ [chk xs]).map .int)) h
def RowH (h : List O) : Prop := (∃ r rest, h = r :: rest ∧ IsRow r) ∧ LowH h
theorem RowH.push {h : List O} {o : O} (l : RowH h) (e : lowO (h.length + 1) o = true) : RowH (h ++ [o]) := by
  obtain ⟨⟨r, rest, rfl, hr⟩, lh⟩ := l
  exact ⟨⟨r, rest ++ [o], rfl, hr⟩, lh.push e⟩
theorem RowH.put {h : List O} {o : O} {n : Nat} (l : RowH h) (e : lowO h.length o = true) (hn : 1 ≤ n) : RowH (h.set n o) := by
  obtain ⟨⟨r, rest, rfl, hr⟩, lh⟩ := l
  refine ⟨⟨r, rest.set (n - 1) o, ?_, hr⟩, lh.put e⟩
  obtain ⟨k, rfl⟩ : ∃ k, n = k + 1 := ⟨n - 1, by omega⟩
  rfl
theorem low_ints_o {k : Nat} {xs : List Int} : lowO k (.lst (xs.map D.int)) = true := low_ints
section
variable {E : PEnv}
theorem r_lchecked {h : List O} {n : Nat} {xs : List Int} (hn : h[n]? = some (.lst (xs.map .int))) (hl : xs.length ≤ 100000) : bodyF n__law_checked (b__law_checked E) [.loc n] h = .ok (.lst ((xs ++ [chk xs]).map .int)) h := by
  simp [bodyF, b__law_checked, startD, n__law_checked, x_V, srcOf_loc hn]
  refine forL_P (φ := D.int) (xs := xs) (fun o => outR o = _) (fun pre s h' => h' = h ∧ ∃ z, s = [some (.loc n), some (.int (chk pre)), z]) (by omega) ?_ ⟨rfl, none, rfl⟩ ?_ ?_
  · rintro pre s h' ⟨rfl, _⟩
    exact hn
  · rintro pre x post s h' _ ⟨rfl, z, rfl⟩
    refine ⟨_, x_asg_nm, _, _, ?_, rfl, some (.int x), rfl⟩
    simp [x_V, v_mul sm21, v_mod, chk]
  · rintro s h' ⟨rfl, z, rfl⟩
    simp [x_V, v_list, v_add_loc hn (ys := [.int (chk xs)]) (by simp; omega)]
theorem k_lchecked : S_lchecked (bodyF n__law_checked (b__law_checked E)) := fun h n xs hn lh hl => call_live (r_lchecked hn hl) rfl (by simp only [lowD]; exact low_ints) lh (by simp [lowDs, lowD])
theorem k_ltext : S_text_items (bodyF n__law_text_items (b__law_text_items E)) := fun h x hx => by
  obtain ⟨h8, hc⟩ := txt_mem hx
  refine call_low (by simp [lowDs, lowD]) (h' := []) ?_ (by simp only [lowD]; exact low_ints)
  have hl : x.length ≤ 1000000 := by omega
  have hl2 : x.cps.size ≤ 8 := h8
  simp [bodyF, b__law_text_items, startD, n__law_text_items, x_V, v_len_str hl, v_list]
  rw [charsD_map, compF_map (g := fun c => D.int (sgn c)) (by simpa [Str.length] using hl) (fun c z => by
    simp [x_V, show (".abcdefghijklmnopqrstuvwxyz" : Str) = dsigns from rfl, v_sindex (hc c z)])]
  simp only [List.nil_append, x_bind_ok, x_mkL_f, x_of_some, kL2_a, kC1_a, kC2_a, kN_a, kTr_a, resO_s, kTN_a, kS1_a, kS0_s, kS2_a, k2_a, k2b_a, k1_a, kSet_a, kRt_a, x_asg_nm, nxO_s, kSi_t, kSi_f]
  rw [v_add_lst (by simp; omega)]
  simp [ti]
def J0 (sc : D) (pre : List Nat) (s : Sl) (h : List O) : Prop := RowH h ∧ ∃ z2 z3 z4 z5 z6 z7 z8, s = [some sc, some (.loc 0), z2, z3, z4, z5, z6, z7, z8]
def J1 (sc : D) (z2 : Option D) (H : Hs) (xs : List Int) (s : Sl) (h : List O) : Prop := RowH h ∧ ∃ n z6 z7 z8, 1 ≤ n ∧ h[n]? = some (.lst (xs.map .int)) ∧ s = [some sc, some (.loc 0), z2, some H.d, some (.loc n), some (.dic H.dic), z6, z7, z8]
structure Env48 (E : PEnv) : Prop extends HEnv E where
  house : S_house (E.f "_law_house")
  enc : S_encode (E.f "encode_house")
  dec : S_decode (E.f "decode_house")
  ti : S_text_items (E.f "_law_text_items")
  ck : S_lchecked (E.f "_law_checked")
theorem law48 (e : Env48 E) {ns : List Int} : ∃ h', bodyF n_law (b_law E) [.scr (ns.map D.int)] [] = .ok (.bl true) h' := by
  have hE := e.toHEnv
  obtain ⟨g1, n1, n2⟩ := hE.names
  obtain ⟨g2, p1, p2⟩ := hE.plates
  obtain ⟨g3, m1, m2⟩ := hE.manners
  suffices hP : ∀ P : Res D → Prop, (∀ h', P (.ok (.bl true) h')) → P (bodyF n_law (b_law E) [.scr (ns.map D.int)] []) from
    hP (fun res => ∃ h', res = .ok (.bl true) h') fun h' => ⟨h', rfl⟩
  intro P fin
  simp [bodyF, b_law, startD, n_law, x_V, v_list, inRng_of]
  rw [rngD_map]
  refine forF_N (fun o => P (outR o)) (J0 (.scr (ns.map D.int))) ⟨⟨⟨_, [], rfl, ns, 0, 0, 0, rfl, by decide, by decide, by decide, by decide⟩, ?_⟩, none, none, none, none, none, none, none, rfl⟩ ?_ ?_
  · intro o ho
    rw [List.mem_singleton.mp ho]
    exact low_row
  · rintro pre x post s h _ ⟨⟨⟨r, rest, rfl, hr⟩, lh⟩, z2, z3, z4, z5, z6, z7, z8, rfl⟩
    obtain ⟨H, r', eh, ⟨ok, _, _⟩, hr', lh'⟩ := e.house r rest hr lh
    have hp6 := ok.p6
    have hn6 := ok.n6
    have hw6 : H.ways.length ≤ 6 := by rw [ok.wl]; exact ok.n6
    have fp := flat_len6 (pl_ti ok) hp6
    have fn := flat_len6 (nm_ti ok) hn6
    have fw := flat_len6 (wy_mi ok) hw6
    simp [x_V, eh, v_list, v_len_d hE ok, m1, m2 _ H, p1, p2 _ H]
    refine forF_N (fun o => NX o _) (fun pre => J1 (.scr (ns.map D.int)) (some (.int x)) H ([66, (H.plates.length : Int)] ++ pre.flatMap Lp.ti)) ?_ ?_ ?_
    · have := (show RowH (r' :: rest) from ⟨⟨r', rest, rfl, hr'⟩, lh'⟩).push (o := .lst (([66, (H.plates.length : Int)]).map .int)) low_ints_o
      refine ⟨by simpa using this, rest.length + 1, _, _, _, by omega, ?_, rfl⟩
      rw [List.getElem?_cons_succ]
      simp
    · rintro pre y post s h ey ⟨rh, n, z6, z7, z8, hn1, hn, rfl⟩
      obtain ⟨l1, l2, hy⟩ := pre_len (pl_ti ok) hp6 ey
      have := rh.push (o := .lst (([66, (H.plates.length : Int)] ++ (pre ++ [y]).flatMap Lp.ti).map .int)) low_ints_o
      simp [x_V, e.ti _ y (ok.pl y hy), v_add_loc hn (ys := (Lp.ti y).map .int) (by simp [-List.length_flatMap]; omega), -List.length_flatMap]
      have lpos : 1 ≤ h.length := by
        obtain ⟨⟨r, rest, rfl, _⟩, _⟩ := rh
        simp
      exact ⟨by simpa using this, h.length, _, _, _, lpos, by simp, rfl⟩
    rintro s h ⟨rh, n, z6, z7, z8, hn1, hn, rfl⟩
    have hnl : n < h.length := (List.getElem?_eq_some_iff.mp hn).1
    have ra := rh.put (o := .lst (([66, (H.plates.length : Int)] ++ H.plates.flatMap Lp.ti ++ [(H.names.length : Int)]).map .int)) low_ints_o hn1
    simp [x_V, ty_loc hn, n1, n2 _ H, v_append hn (y := .int H.names.length) (by simp [-List.length_flatMap]; omega), -List.length_flatMap]
    refine forF_N (fun o => NX o _) (fun pre => J1 (.scr (ns.map D.int)) (some (.int x)) H ([66, (H.plates.length : Int)] ++ H.plates.flatMap Lp.ti ++ [(H.names.length : Int)] ++ pre.flatMap Lp.ti)) ?_ ?_ ?_
    · refine ⟨by simpa using ra, n, _, _, _, hn1, ?_, rfl⟩
      rw [List.getElem?_set_self hnl]
      simp
    · rintro pre y post s h ey ⟨rh, n, z6, z7, z8, hn1, hn, rfl⟩
      obtain ⟨l1, l2, hy⟩ := pre_len (nm_ti ok) hn6 ey
      have := rh.push (o := .lst (([66, (H.plates.length : Int)] ++ H.plates.flatMap Lp.ti ++ [(H.names.length : Int)] ++ (pre ++ [y]).flatMap Lp.ti).map .int)) low_ints_o
      simp [x_V, e.ti _ y (.inr (abc_sub (ok.txt y hy))), v_add_loc hn (ys := (Lp.ti y).map .int) (by simp [-List.length_flatMap]; omega), -List.length_flatMap]
      have lpos : 1 ≤ h.length := by
        obtain ⟨⟨r, rest, rfl, _⟩, _⟩ := rh
        simp
      exact ⟨by simpa using this, h.length, _, _, _, lpos, by simp, rfl⟩
    rintro s h ⟨rh, n, z6, z7, z8, hn1, hn, rfl⟩
    simp [x_V, n1, n2 _ H]
    have ezip : (H.names.zip H.ways).map (fun p => D.str p.1) = H.names.map D.str := by
      rw [show (fun p : Str × Mn => D.str p.1) = D.str ∘ Prod.fst from rfl, ← List.map_map, List.map_fst_zip (by have := ok.wl; omega)]
    rw [← ezip]
    have hzl : (H.names.zip H.ways).length ≤ 6 := by simp; omega
    have hzm : ∀ p ∈ H.names.zip H.ways, (mi p.2).length ≤ 9 := fun p hp => wy_mi ok _ (List.of_mem_zip hp).2
    refine forF_N (φ := fun p : Str × Mn => D.str p.1) (fun o => NX o _) (fun pre => J1 (.scr (ns.map D.int)) (some (.int x)) H ([66, (H.plates.length : Int)] ++ H.plates.flatMap Lp.ti ++ [(H.names.length : Int)] ++ H.names.flatMap Lp.ti ++ pre.flatMap fun p => mi p.2)) ?_ ?_ ?_
    · exact ⟨rh, n, _, _, _, hn1, by simpa using hn, rfl⟩
    · rintro pre y post s h ey ⟨rh, n, z6, z7, z8, hn1, hn, rfl⟩
      obtain ⟨l1, l2, hy⟩ := pre_len (f := fun p : Str × Mn => mi p.2) hzm hzl ey
      have lk : lookK H.dic (.inr y.1) = some y.2.d := look_zip (nodup ok) (x := y.1) (m := y.2) hy
      have lpos : 1 ≤ h.length := by
        obtain ⟨⟨r, rest, rfl, _⟩, _⟩ := rh
        simp
      have hnl : n < h.length := (List.getElem?_eq_some_iff.mp hn).1
      have okm := ok.wo y.2 (List.of_mem_zip hy).2
      obtain ⟨yn, ym⟩ := y
      simp only at lk okm l2
      cases ym with
      | back =>
        have ra := rh.put (o := .lst (([66, (H.plates.length : Int)] ++ H.plates.flatMap Lp.ti ++ [(H.names.length : Int)] ++ H.names.flatMap Lp.ti ++ (pre ++ [(yn, Mn.back)]).flatMap fun p => mi p.2).map .int)) low_ints_o hn1
        simp [x_V, lk, v_tup, Mn.d]
        rw [v_in_tup (by decide +kernel) (by decide +kernel)]
        have eb : (([D.str "back", D.str "keep"] : List D).any fun z => eqPl z (.str "back")) = true := by decide +kernel
        rw [eb]
        simp [x_V, lk, Mn.d, ty_loc hn]
        rw [v_eq (by decide +kernel) (by decide +kernel)]
        have ek : ((Str.ofString "back") == (Str.ofString "keep")) = false := by decide +kernel
        simp [ek, v_append hn (y := .int 0) (by simp [-List.length_flatMap]; omega), -List.length_flatMap]
        refine ⟨by simpa [mi] using ra, n, _, _, _, hn1, ?_, rfl⟩
        rw [List.getElem?_set_self hnl]
        simp [mi]
      | keep =>
        have ra := rh.put (o := .lst (([66, (H.plates.length : Int)] ++ H.plates.flatMap Lp.ti ++ [(H.names.length : Int)] ++ H.names.flatMap Lp.ti ++ (pre ++ [(yn, Mn.keep)]).flatMap fun p => mi p.2).map .int)) low_ints_o hn1
        simp [x_V, lk, v_tup, Mn.d]
        rw [v_in_tup (by decide +kernel) (by decide +kernel)]
        have eb : (([D.str "back", D.str "keep"] : List D).any fun z => eqPl z (.str "keep")) = true := by decide +kernel
        rw [eb]
        simp [x_V, lk, Mn.d, ty_loc hn]
        rw [v_eq (by decide +kernel) (by decide +kernel)]
        simp [v_append hn (y := .int 1) (by simp [-List.length_flatMap]; omega), -List.length_flatMap]
        refine ⟨by simpa [mi] using ra, n, _, _, _, hn1, ?_, rfl⟩
        rw [List.getElem?_set_self hnl]
        simp [mi]
      | guess g =>
        have ra := rh.push (o := .lst (([66, (H.plates.length : Int)] ++ H.plates.flatMap Lp.ti ++ [(H.names.length : Int)] ++ H.names.flatMap Lp.ti ++ (pre ++ [(yn, Mn.guess g)]).flatMap fun p => mi p.2).map .int)) low_ints_o
        have hgl : g.length = H.names.length := by simp only [mnOk, Bool.and_eq_true, decide_eq_true_eq] at okm; exact okm.1
        simp [x_V, lk, v_tup]
        rw [v_in_tup (dat_mono mn_dat (by decide)) (by decide +kernel)]
        have eb : (([D.str "back", D.str "keep"] : List D).any fun z => eqPl z (Mn.guess g).d) = false := by simp [Mn.d]
        rw [eb]
        simp [x_V, lk, Mn.d, v_list, v_add_loc hn (ys := [.int 2]) (by simp [-List.length_flatMap]; omega), -List.length_flatMap]
        rw [compF_map (g := fun o => D.int (bi o)) (by simp; omega) (fun c z => by
          cases c <;> simp [x_V, oD, bi])]
        simp only [List.nil_append, x_bind_ok, x_mkL_f, x_of_some, kL2_a, kC1_a, kC2_a, kN_a, kTr_a, resO_s, kTN_a, kS1_a, kS0_s, kS2_a, k2_a, k2b_a, k1_a, kSet_a, kRt_a, x_asg_nm, nxO_s, kSi_t, kSi_f]
        rw [v_add_lst (by simp [-List.length_flatMap] at l1 ⊢; omega)]
        simp
        refine ⟨by simpa [mi, Function.comp_def] using ra, h.length, _, _, _, lpos, by simp [mi, Function.comp_def], rfl⟩
    rintro s h ⟨rh, n, z6, z7, z8, hn1, hn, rfl⟩
    have ez2 : ((H.names.zip H.ways).flatMap fun p => mi p.2) = H.ways.flatMap mi := by
      rw [List.flatMap_def, List.flatMap_def, show (fun p : Str × Mn => mi p.2) = mi ∘ Prod.snd from rfl, ← List.map_map, List.map_snd_zip (by have := ok.wl; omega)]
    rw [ez2] at hn
    have hn' : h[n]? = some (.lst ((enc H).map .int)) := hn
    have le : (enc H).length ≤ 1000 := by simp [enc, -List.length_flatMap]; omega
    have c1 := e.ck h n (enc H) hn' rh.2 (by omega)
    have c2 := e.enc h H ok
    have c3 := e.dec h H ok
    have dd : dat 30 (.lst ((enc H ++ [chk (enc H)]).map .int)) = true := by rw [dat_lst]; exact dats_ints
    obtain ⟨A, eA⟩ : ∃ A, A = (enc H ++ [chk (enc H)]).map D.int := ⟨_, rfl⟩
    rw [← eA] at c1 c2 c3 dd
    simp [x_V, c1, c2, c3, v_ne dd dd, eqPl_self dd, v_ne_d hE ok]
    exact ⟨rh, _, _, _, _, _, _, _, rfl⟩
  · rintro s h ⟨_, z2, z3, z4, z5, z6, z7, z8, rfl⟩
    simp
    exact fin _
end
end Lp
namespace Lp
open PySem L2 Lo
def n_check_name : List Str := ["house", "name"]
def b_check_name (E : PEnv) : Sc := (scSeq (scIf (tbOr (tbNot (tbV (acN (isiO E.ow) (alCons (acV 1) (alCons (acC (.ty "str")) alNil))))) (tbV (ac2 notInP (acV 1) (acAttr (E.a "folk") "folk" (acV 0))))) (scSeq (scRz 23) scNx) scNx) scNx)
def n_check_box : List Str := ["house", "box"]
def b_check_box (E : PEnv) : Sc := (scSeq (scIf (tbNot (tbV (acCall (E.f "is_number") 3 (alCons (acV 1) (alCons (acC (.int 0)) (alCons (ac2 subP (acN (lenO E.ow) (alCons (acAttr (E.a "signs") "signs" (acV 0)) alNil)) (acC (.int 1))) alNil)))))) (scSeq (scRz 24) scNx) scNx) scNx)
def n_is_order : List Str := ["house", "order", "box"]
def b_is_order (E : PEnv) : Sc := (scSeq (scIf (tbOr (tbNot (tbV (acN (isiO E.ow) (alCons (acV 1) (alCons (acC (.ty "tuple")) alNil))))) (tbOr (tbV (ac2 (neO E.ow) (acN (lenO E.ow) (alCons (acV 1) alNil)) (acN (lenO E.ow) (alCons (acAttr (E.a "folk") "folk" (acV 0)) alNil)))) (tbV (ac2 ltP (acLS (acV 1)) (acN (lenO E.ow) (alCons (acV 1) alNil)))))) (scSeq (scRet (acC (.bl false))) scNx) scNx) (scSeq (scRet (acN allP (alCons (acLc false (acIt (acV 1)) (.nm 2) tbYes (acCall (E.f "is_number") 3 (alCons (acV 2) (alCons (acC (.int 0)) (alCons (ac2 subP (acN (lenO E.ow) (alCons (acAttr (E.a "signs") "signs" (acV 0)) alNil)) (acC (.int 1))) alNil)))) [2]) alNil))) scNx))
def n_check_order : List Str := ["house", "order"]
def b_check_order (E : PEnv) : Sc := (scSeq (scIf (tbNot (tbV (acCall (E.f "is_order") 2 (alCons (acV 0) (alCons (acV 1) alNil))))) (scSeq (scRz 22) scNx) scNx) scNx)
def n_owner_of : List Str := ["house", "order", "box"]
def b_owner_of (E : PEnv) : Sc := (scSeq (scRet (acIf (tbV (ac2 inP (acV 2) (acV 1))) (ac2 itemP (acAttr (E.a "folk") "folk" (acV 0)) (acM tbIndex (acV 1) (alCons (acV 2) alNil))) (acC .non))) scNx)
def n_handed_on : List Str := ["house", "owner", "name", "box", "manner", "goal"]
def b_handed_on (E : PEnv) : Sc := (scSeq (scSet (.nm 4) (ac2 itemP (acAttr (E.a "ways") "ways" (acV 0)) (acV 1))) (scSeq (scIf (tbNot (tbV (acN (isiO E.ow) (alCons (acV 4) (alCons (acC (.ty "tuple")) alNil))))) (scSeq (scRet (acV 4)) scNx) scNx) (scSeq (scSet (.nm 5) (ac2 itemP (acV 4) (acM tbIndex (acAttr (E.a "folk") "folk" (acV 0)) (alCons (acV 2) alNil)))) (scSeq (scRet (acIf (tbOr (tbV (ac2 isP (acV 5) (acC .non))) (tbV (ac2 (eqO E.ow) (acV 5) (acV 3)))) (acC (.str "back")) (acV 5))) scNx))))
def n_way_of : List Str := ["house", "order", "name", "box", "boxes", "here", "owner", "goal"]
def b_way_of (E : PEnv) : Sc := (scSeq (scSet (.nm 4) (acN (lstP true) (alCons (acV 3) alNil))) (scSeq (scWhile (tbV (acC (.bl true))) (scSeq (scSet (.nm 5) (ac2 itemP (acV 4) (ac1 negP (acC (.int 1))))) (scSeq (scSet (.nm 6) (acCall (E.f "owner_of") 3 (alCons (acV 0) (alCons (acV 1) (alCons (acV 5) alNil))))) (scSeq (scIf (tbV (ac2 isP (acV 6) (acC .non))) (scSeq (scRet (acN tupP (alCons (acN tupleP (alCons (acV 4) alNil)) (alCons (acC (.str "lies")) alNil)))) scNx) scNx) (scSeq (scIf (tbV (ac2 (eqO E.ow) (acV 6) (acV 2))) (scSeq (scRet (acN tupP (alCons (acN tupleP (alCons (acV 4) alNil)) (alCons (acC (.str "kept")) alNil)))) scNx) scNx) (scSeq (scSet (.nm 7) (acCall (E.f "handed_on") 4 (alCons (acV 0) (alCons (acV 6) (alCons (acV 2) (alCons (acV 5) alNil)))))) (scSeq (scIf (tbV (ac2 inP (acV 7) (acN tupP (alCons (acC (.str "back")) (alCons (acC (.str "keep")) alNil))))) (scSeq (scRet (acN tupP (alCons (acN tupleP (alCons (acV 4) alNil)) (alCons (acIf (tbV (ac2 (eqO E.ow) (acV 7) (acC (.str "back")))) (acC (.str "back")) (acC (.str "lies"))) alNil)))) scNx) scNx) (scSeq (scIf (tbV (ac2 inP (acV 7) (acV 4))) (scSeq (scRet (acN tupP (alCons (acN tupleP (alCons (acV 4) alNil)) (alCons (acC (.str "round")) alNil)))) scNx) scNx) (scSeq (scExpr (acM tbAppend (acV 4) (alCons (acV 7) alNil))) scNx))))))))) scNx))
def n_answer_of : List Str := ["house", "order", "name", "box", "boxes", "word"]
def b_answer_of (E : PEnv) : Sc := (scSeq (scSet (.tp [(.nm 4), (.nm 5)]) (acCall (E.f "way_of") 4 (alCons (acV 0) (alCons (acV 1) (alCons (acV 2) (alCons (acV 3) alNil)))))) (scSeq (scRet (acIf (tbV (ac2 (eqO E.ow) (acV 5) (acC (.str "back")))) (ac2 subP (acN (lenO E.ow) (alCons (acV 4) alNil)) (acC (.int 1))) (acC .non))) scNx))
def n_check_letter : List Str := ["house", "order", "name", "box"]
def b_check_letter (E : PEnv) : Sc := (scSeq (scExpr (acCall (E.f "check_order") 2 (alCons (acV 0) (alCons (acV 1) alNil)))) (scSeq (scExpr (acCall (E.f "check_name") 2 (alCons (acV 0) (alCons (acV 2) alNil)))) (scSeq (scExpr (acCall (E.f "check_box") 2 (alCons (acV 0) (alCons (acV 3) alNil)))) scNx)))
def n_way : List Str := ["house", "order", "name", "box"]
def b_way (E : PEnv) : Sc := (scSeq (scExpr (acCall (E.f "check_letter") 4 (alCons (acV 0) (alCons (acV 1) (alCons (acV 2) (alCons (acV 3) alNil)))))) (scSeq (scRet (acCall (E.f "way_of") 4 (alCons (acV 0) (alCons (acV 1) (alCons (acV 2) (alCons (acV 3) alNil)))))) scNx))
def n_answer : List Str := ["house", "order", "name", "box"]
def b_answer (E : PEnv) : Sc := (scSeq (scExpr (acCall (E.f "check_letter") 4 (alCons (acV 0) (alCons (acV 1) (alCons (acV 2) (alCons (acV 3) alNil)))))) (scSeq (scRet (acCall (E.f "answer_of") 4 (alCons (acV 0) (alCons (acV 1) (alCons (acV 2) (alCons (acV 3) alNil)))))) scNx))
end Lp
namespace Lp
open PySem L2 Lo
def w_SIGNS : List (Str × D) := [("kept", .str "k"), ("lies", .str "-"), ("back", .str "<"), ("round", .str "@")]
def n_sign_at : List Str := ["house", "order", "name", "box"]
def b_sign_at (E : PEnv) : Sc := (scSeq (scIf (tbV (ac2 (eqO E.ow) (ac2 itemP (acV 1) (acM tbIndex (acAttr (E.a "names") "names" (acV 0)) (alCons (acV 2) alNil))) (acV 3))) (scSeq (scRet (acC (.str "o"))) scNx) scNx) (scSeq (scRet (acWd w_SIGNS (ac2 itemP (acCall (E.f "way_of") 4 (alCons (acV 0) (alCons (acV 1) (alCons (acV 2) (alCons (acV 3) alNil))))) (acC (.int 1))))) scNx))
def n_table : List Str := ["house", "order", "lines", "name", "box"]
def b_table (E : PEnv) : Sc := (scSeq (scExpr (acCall (E.f "check_order") 2 (alCons (acV 0) (alCons (acV 1) alNil)))) (scSeq (scSet (.nm 2) (acN (lstP true) alNil)) (scSeq (scFor (acIt (acAttr (E.a "names") "names" (acV 0))) (.nm 3) (scSeq (scExpr (acM tbAppend (acV 2) (alCons (acM tbJoin (acC (.str " ")) (alCons (acN (lstP false) (alCons (acV 3) (alStar (acLc false (acRng1 (acN (lenO E.ow) (alCons (acV 0) alNil))) (.nm 4) tbYes (acCall (E.f "sign_at") 4 (alCons (acV 0) (alCons (acV 1) (alCons (acV 3) (alCons (acV 4) alNil))))) [4]) alNil))) alNil)) alNil))) scNx)) (scSeq (scRet (acM tbJoin (acC (.str "\n")) (alCons (acV 2) alNil))) scNx))))
def n_doors : List Str := ["house", "order", "lines", "box", "plate", "owner"]
def b_doors (E : PEnv) : Sc := (scSeq (scExpr (acCall (E.f "check_order") 2 (alCons (acV 0) (alCons (acV 1) alNil)))) (scSeq (scSet (.nm 2) (acN (lstP true) alNil)) (scSeq (scFor (acEnum (acAttr (E.a "plates") "plates" (acV 0))) (.tp [(.nm 3), (.nm 4)]) (scSeq (scSet (.nm 5) (acCall (E.f "owner_of") 3 (alCons (acV 0) (alCons (acV 1) (alCons (acV 3) alNil))))) (scSeq (scExpr (acM tbAppend (acV 2) (alCons (acM tbJoin (acC (.str " ")) (alCons (acN (lstP false) (alCons (acJs [(acFm (acV 3)), (acC (.str ":"))] Str.empty) (alCons (acIf (tbV (ac2 (neO E.ow) (acV 4) (acC (.str "")))) (acV 4) (acC (.str "-"))) (alCons (acIf (tbV (ac2 isNotP (acV 5) (acC .non))) (acV 5) (acC (.str "-"))) alNil)))) alNil)) alNil))) scNx))) (scSeq (scRet (acM tbJoin (acC (.str "\n")) (alCons (acV 2) alNil))) scNx))))
def n__law_matches : List Str := ["_law_plate", "_law_name", "_law_k"]
def b__law_matches (E : PEnv) : Sc := (scSeq (scIf (tbV (ac2 (neO E.ow) (acN (lenO E.ow) (alCons (acV 0) alNil)) (acN (lenO E.ow) (alCons (acV 1) alNil)))) (scSeq (scRet (acC (.bl false))) scNx) scNx) (scSeq (scRet (ac2 (eqO E.ow) (acLc false (acRng1 (acN (lenO E.ow) (alCons (acV 0) alNil))) (.nm 2) (tbV (ac2 notInP (ac2 itemP (acV 0) (acV 2)) (acN tupP (alCons (acC (.str ".")) (alCons (ac2 itemP (acV 1) (acV 2)) alNil))))) (acV 2) [2]) (acN (lstP false) alNil))) scNx))
def n__law_fitting : List Str := ["_law_house_here", "_law_rows", "_law_name", "_law_found", "_law_order_here", "_law_more", "_law_one", "_law_wrong", "_law_box", "_law_plate"]
def b__law_fitting (E : PEnv) : Sc := (scSeq (scSet (.nm 1) (acN (lstP false) (alCons (acN tupP alNil) alNil))) (scSeq (scFor (acIt (acAttr (E.a "names") "names" (acV 0))) (.nm 2) (scSeq (scSet (.nm 5) (acN (lstP false) alNil)) (scSeq (scFor (acIt (acV 1)) (.nm 6) (scSeq (scSet (.nm 5) (ac2 (addP false) (acV 5) (acLc false (acRng1 (acN (lenO E.ow) (alCons (acV 0) alNil))) (.nm 8) (tbV (ac2 notInP (acV 8) (acV 6))) (ac2 (addP false) (acV 6) (acN tupP (alCons (acV 8) alNil))) [8]))) scNx)) (scSeq (scSet (.nm 1) (acV 5)) scNx)))) (scSeq (scSet (.nm 3) (acN (lstP true) alNil)) (scSeq (scFor (acIt (acV 1)) (.nm 4) (scSeq (scSet (.nm 7) (acC (.int 0))) (scSeq (scFor (acEnum (acAttr (E.a "plates") "plates" (acV 0))) (.tp [(.nm 8), (.nm 9)]) (scSeq (scSet (.nm 2) (acIf (tbV (ac2 inP (acV 8) (acV 4))) (ac2 itemP (acAttr (E.a "names") "names" (acV 0)) (acM tbIndex (acV 4) (alCons (acV 8) alNil))) (acC (.str "")))) (scSeq (scSet (.nm 7) (ac2 (addP false) (acV 7) (acN intP1 (alCons (acAnd (ac2 (neO E.ow) (acV 9) (acC (.str ""))) (acNot (acCall (E.f "_law_matches") 2 (alCons (acV 9) (alCons (acV 2) alNil))))) alNil)))) scNx))) (scSeq (scIf (tbV (ac2 (eqO E.ow) (acV 7) (acC (.int 0)))) (scSeq (scExpr (acM tbAppend (acV 3) (alCons (acV 4) alNil))) scNx) scNx) scNx)))) (scSeq (scRet (acV 3)) scNx)))))
def n__law_way : List Str := ["_law_house_here", "_law_order_here", "_law_name", "_law_box", "_law_boxes", "_law_manners", "_law_here", "_law_owner", "_law_goal"]
def b__law_way (E : PEnv) : Sc := (scSeq (scPar [.nm 4, .nm 5] (alCons (acN tupP (alCons (acV 3) alNil)) (alCons (acAttr (E.a "manners") "manners" (acV 0)) alNil))) (scSeq (scWhile (tbV (acC (.bl true))) (scSeq (scSet (.nm 6) (ac2 itemP (acV 4) (ac1 negP (acC (.int 1))))) (scSeq (scIf (tbV (ac2 notInP (acV 6) (acV 1))) (scSeq (scRet (acN tupP (alCons (acV 4) (alCons (acC (.str "lies")) alNil)))) scNx) scNx) (scSeq (scSet (.nm 7) (ac2 itemP (acAttr (E.a "names") "names" (acV 0)) (acM tbIndex (acV 1) (alCons (acV 6) alNil)))) (scSeq (scIf (tbV (ac2 (eqO E.ow) (acV 7) (acV 2))) (scSeq (scRet (acN tupP (alCons (acV 4) (alCons (acC (.str "kept")) alNil)))) scNx) scNx) (scSeq (scIf (tbV (ac2 inP (ac2 itemP (acV 5) (acV 7)) (acN tupP (alCons (acC (.str "back")) (alCons (acC (.str "keep")) alNil))))) (scSeq (scRet (acN tupP (alCons (acV 4) (alCons (acIf (tbV (ac2 (eqO E.ow) (ac2 itemP (acV 5) (acV 7)) (acC (.str "back")))) (acC (.str "back")) (acC (.str "lies"))) alNil)))) scNx) scNx) (scSeq (scSet (.nm 8) (ac2 itemP (ac2 itemP (acV 5) (acV 7)) (acM tbIndex (acAttr (E.a "names") "names" (acV 0)) (alCons (acV 2) alNil)))) (scSeq (scIf (tbOr (tbV (ac2 isP (acV 8) (acC .non))) (tbV (ac2 (eqO E.ow) (acV 8) (acV 6)))) (scSeq (scRet (acN tupP (alCons (acV 4) (alCons (acC (.str "back")) alNil)))) scNx) scNx) (scSeq (scIf (tbV (ac2 inP (acV 8) (acV 4))) (scSeq (scRet (acN tupP (alCons (acV 4) (alCons (acC (.str "round")) alNil)))) scNx) scNx) (scSeq (scSet (.nm 4) (ac2 (addP false) (acV 4) (acN tupP (alCons (acV 8) alNil)))) scNx)))))))))) scNx))
def n__law_order : List Str := ["_law_row", "_law_house_here", "_law_left", "_law_found", "_law_name", "_law_some"]
def b__law_order (E : PEnv) : Sc := (scSeq (scPar [.nm 2, .nm 3] (alCons (acLR1 true (acN (lenO E.ow) (alCons (acV 1) alNil))) (alCons (acN (lstP true) alNil) alNil))) (scSeq (scFor (acIt (acAttr (E.a "names") "names" (acV 1))) (.nm 4) (scSeq (scExpr (acM tbAppend (acV 3) (alCons (acM tbPop (acV 2) (alCons (acCall (E.f "_law_taken") 2 (alCons (acV 0) (alCons (acN (lenO E.ow) (alCons (acV 2) alNil)) alNil))) alNil)) alNil))) scNx)) (scSeq (scSet (.nm 5) (acCall (E.f "_law_fitting") 1 (alCons (acV 1) alNil))) (scSeq (scRet (acIf (tbAnd (tbV (ac2 (neO E.ow) (acV 5) (acN (lstP false) alNil))) (tbV (ac2 gtP (acCall (E.f "_law_taken") 2 (alCons (acV 0) (alCons (acC (.int 4)) alNil))) (acC (.int 0))))) (ac2 itemP (acV 5) (acCall (E.f "_law_taken") 2 (alCons (acV 0) (alCons (acN (lenO E.ow) (alCons (acV 5) alNil)) alNil)))) (acN tupleP (alCons (acV 3) alNil)))) scNx))))
end Lp
namespace L45
open PySem L2 Lo
def n_law : List Str := ["_law_script", "_law_row", "_law_turn", "_law_house_here", "_law_order_here", "_law_lines", "_law_name", "_law_box", "_law_words", "_law_plate", "_law_word", "_law_sign"]
def b_law (E : PEnv) : Sc := (scSeq (scSet (.nm 1) (acN (lstP true) (alCons (acV 0) (alCons (acC (.int 0)) (alCons (acC (.int 0)) (alCons (acC (.int 0)) alNil)))))) (scSeq (scFor (acRng1 (acC (.int 6))) (.nm 2) (scSeq (scSet (.nm 3) (acCall (E.f "_law_house") 1 (alCons (acV 1) alNil))) (scSeq (scPar [.nm 4, .nm 5] (alCons (acCall (E.f "_law_order") 2 (alCons (acV 1) (alCons (acV 3) alNil))) (alCons (acN (lstP true) alNil) alNil))) (scSeq (scFor (acIt (acAttr (E.a "names") "names" (acV 3))) (.nm 6) (scSeq (scSet (.nm 8) (acN (lstP true) (alCons (acV 6) alNil))) (scSeq (scFor (acRng1 (acN (lenO E.ow) (alCons (acV 3) alNil))) (.nm 7) (scSeq (scSet (.nm 10) (ac2 itemP (acCall (E.f "_law_way") 4 (alCons (acV 3) (alCons (acV 4) (alCons (acV 6) (alCons (acV 7) alNil))))) (acC (.int 1)))) (scSeq (scSet (.nm 11) (ac2 itemP (acDsp false [((acC (.str "kept")), (acC (.str "k"))), ((acC (.str "lies")), (acC (.str "-"))), ((acC (.str "back")), (acC (.str "<"))), ((acC (.str "round")), (acC (.str "@")))]) (acV 10))) (scSeq (scExpr (acM tbAppend (acV 8) (alCons (acIf (tbV (ac2 (eqO E.ow) (ac2 itemP (acV 4) (acM tbIndex (acAttr (E.a "names") "names" (acV 3)) (alCons (acV 6) alNil))) (acV 7))) (acC (.str "o")) (acV 11)) alNil))) scNx)))) (scSeq (scExpr (acM tbAppend (acV 5) (alCons (acM tbJoin (acC (.str " ")) (alCons (acV 8) alNil)) alNil))) scNx)))) (scSeq (scIf (tbV (ac2 (neO E.ow) (acCall (E.f "table") 2 (alCons (acV 3) (alCons (acV 4) alNil))) (acM tbJoin (acC (.str "\n")) (alCons (acV 5) alNil)))) (scSeq (scRet (acC (.bl false))) scNx) scNx) (scSeq (scSet (.nm 5) (acN (lstP true) alNil)) (scSeq (scFor (acRng1 (acN (lenO E.ow) (alCons (acV 3) alNil))) (.nm 7) (scSeq (scSet (.nm 9) (acIf (tbV (ac2 (neO E.ow) (ac2 itemP (acAttr (E.a "plates") "plates" (acV 3)) (acV 7)) (acC (.str "")))) (ac2 itemP (acAttr (E.a "plates") "plates" (acV 3)) (acV 7)) (acC (.str "-")))) (scSeq (scExpr (acM tbAppend (acV 5) (alCons (ac2 (addP false) (ac2 (addP false) (ac2 (addP false) (ac2 (addP false) (acN strP1 (alCons (acV 7) alNil)) (acC (.str ": "))) (acV 9)) (acC (.str " "))) (acIf (tbV (ac2 inP (acV 7) (acV 4))) (ac2 itemP (acAttr (E.a "names") "names" (acV 3)) (acM tbIndex (acV 4) (alCons (acV 7) alNil))) (acC (.str "-")))) alNil))) scNx))) (scSeq (scIf (tbV (ac2 (neO E.ow) (acCall (E.f "doors") 2 (alCons (acV 3) (alCons (acV 4) alNil))) (acM tbJoin (acC (.str "\n")) (alCons (acV 5) alNil)))) (scSeq (scRet (acC (.bl false))) scNx) scNx) scNx)))))))) (scSeq (scRet (acC (.bl true))) scNx)))
end L45
namespace Lp
open PySem L2 Lo
def n_check_number : List Str := ["value", "smallest", "largest"]
def b_check_number (E : PEnv) : Sc := (scSeq (scIf (tbNot (tbV (acCall (E.f "is_number") 3 (alCons (acV 0) (alCons (acV 1) (alCons (acV 2) alNil)))))) (scSeq (scRz 29) scNx) scNx) scNx)
def n_does_match : List Str := ["plate", "name", "sign", "letter"]
def b_does_match (E : PEnv) : Sc := (scSeq (scIf (tbV (ac2 (neO E.ow) (acN (lenO E.ow) (alCons (acV 0) alNil)) (acN (lenO E.ow) (alCons (acV 1) alNil)))) (scSeq (scRet (acC (.bl false))) scNx) scNx) (scSeq (scRet (acN allP (alCons (acLc false (acZip (acV 0) (acV 1)) (.tp [(.nm 2), (.nm 3)]) tbYes (ac2 inP (acV 2) (acN tupP (alCons (acC (.str ".")) (alCons (acV 3) alNil)))) [2, 3]) alNil))) scNx))
def n_does_fit : List Str := ["house", "order", "box", "plate"]
def b_does_fit (E : PEnv) : Sc := (scSeq (scFor (acEnum (acAttr (E.a "signs") "signs" (acV 0))) (.tp [(.nm 2), (.nm 3)]) (scSeq (scIf (tbV (ac2 (neO E.ow) (acV 3) (acC (.str "")))) (scSeq (scIf (tbOr (tbV (ac2 notInP (acV 2) (acV 1))) (tbNot (tbV (acCall (E.f "does_match") 2 (alCons (acV 3) (alCons (ac2 itemP (acAttr (E.a "folk") "folk" (acV 0)) (acM tbIndex (acV 1) (alCons (acV 2) alNil))) alNil)))))) (scSeq (scRet (acC (.bl false))) scNx) scNx) scNx) scNx) scNx)) (scSeq (scRet (acC (.bl true))) scNx))
def n_all_orders : List Str := ["house", "rows", "name", "longer", "row", "box", "plate"]
def b_all_orders (E : PEnv) : Sc := (scSeq (scSet (.nm 1) (acN (lstP false) (alCons (acN tupP alNil) alNil))) (scSeq (scFor (acIt (acAttr (E.a "folk") "folk" (acV 0))) (.nm 2) (scSeq (scSet (.nm 3) (acN (lstP true) alNil)) (scSeq (scFor (acIt (acV 1)) (.nm 4) (scSeq (scFor (acEnum (acAttr (E.a "signs") "signs" (acV 0))) (.tp [(.nm 5), (.nm 6)]) (scSeq (scIf (tbAnd (tbV (ac2 notInP (acV 5) (acV 4))) (tbOr (tbV (ac2 (eqO E.ow) (acV 6) (acC (.str "")))) (tbV (acCall (E.f "does_match") 2 (alCons (acV 6) (alCons (acV 2) alNil)))))) (scSeq (scExpr (acM tbAppend (acV 3) (alCons (acN tupP (alStar (acV 4) (alCons (acV 5) alNil))) alNil))) scNx) scNx) scNx)) scNx)) (scSeq (scSet (.nm 1) (acV 3)) scNx)))) (scSeq (scRet (acLc false (acIt (acV 1)) (.nm 4) (tbV (acCall (E.f "does_fit") 2 (alCons (acV 0) (alCons (acV 4) alNil)))) (acV 4) [4])) scNx)))
def n_check_log : List Str := ["house", "log", "index", "name", "box", "seen", "is_named"]
def b_check_log (E : PEnv) : Sc := (scSeq (scFor (acEnum (acV 1)) (.tp [(.nm 2), (.tp [(.nm 3), (.nm 4), (.nm 5)])]) (scSeq (scSet (.nm 6) (acAnd (acN (isiO E.ow) (alCons (acV 3) (alCons (acC (.ty "str")) alNil))) (ac2 inP (acV 3) (acAttr (E.a "folk") "folk" (acV 0))))) (scSeq (scIf (tbOr (tbNot (tbV (acV 6))) (tbNot (tbV (acCall (E.f "is_number") 3 (alCons (acV 4) (alCons (acC (.int 0)) (alCons (ac2 subP (acN (lenO E.ow) (alCons (acAttr (E.a "signs") "signs" (acV 0)) alNil)) (acC (.int 1))) alNil))))))) (scSeq (scRzI 25 ["index"] (alCons (acV 2) alNil)) scNx) scNx) (scSeq (scIf (tbAnd (tbV (ac2 isNotP (acV 5) (acC .non))) (tbNot (tbV (acCall (E.f "is_number") 3 (alCons (acV 5) (alCons (acC (.int 0)) (alCons (acC (.int 6)) alNil))))))) (scSeq (scRzI 25 ["index"] (alCons (acV 2) alNil)) scNx) scNx) scNx)))) scNx)
def n_left_by : List Str := ["house", "rows", "log", "found", "order", "name", "box", "seen"]
def b_left_by (E : PEnv) : Sc := (scSeq (scSet (.nm 3) (acN (lstP true) alNil)) (scSeq (scFor (acIt (acV 1)) (.nm 4) (scSeq (scIf (tbV (acN allP (alCons (acLc false (acIt (acV 2)) (.tp [(.nm 5), (.nm 6), (.nm 7)]) tbYes (ac2 (eqO E.ow) (acCall (E.f "answer_of") 4 (alCons (acV 0) (alCons (acV 4) (alCons (acV 5) (alCons (acV 6) alNil))))) (acV 7)) [5, 6, 7]) alNil))) (scSeq (scExpr (acM tbAppend (acV 3) (alCons (acV 4) alNil))) scNx) scNx) scNx)) (scSeq (scRet (acV 3)) scNx)))
def n_need_some : List Str := ["rows"]
def b_need_some (E : PEnv) : Sc := (scSeq (scIf (tbV (ac2 (eqO E.ow) (acV 0) (acN (lstP false) alNil))) (scSeq (scRz 27) scNx) scNx) scNx)
def n_check_bag : List Str := ["house", "bag", "most", "index", "name"]
def b_check_bag (E : PEnv) : Sc := (scSeq (scFor (acEnum (acV 1)) (.tp [(.nm 3), (.nm 4)]) (scSeq (scIf (tbOr (tbV (ac2 (eqO E.ow) (acV 3) (acC (.int 6)))) (tbV (ac2 notInP (acV 4) (acAttr (E.a "names") "names" (acV 0))))) (scSeq (scRzI 35 ["index"] (alCons (acV 3) alNil)) scNx) scNx) scNx)) (scSeq (scExpr (acCall (E.f "check_number") 3 (alCons (acV 2) (alCons (acC (.int 1)) (alCons (acC (.int 6)) alNil))))) scNx))
def n_costs_of : List Str := ["house", "rows", "name", "found", "box", "some", "order", "boxes", "word"]
def b_costs_of (E : PEnv) : Sc := (scSeq (scSet (.nm 3) (fun _ h => Res.of (some (mkD true [] h)))) (scSeq (scFor (acRng1 (acN (lenO E.ow) (alCons (acV 0) alNil))) (.nm 4) (scSeq (scSet (.nm 5) (acLc false (acIt (acV 1)) (.nm 6) tbYes (acCall (E.f "way_of") 4 (alCons (acV 0) (alCons (acV 6) (alCons (acV 2) (alCons (acV 4) alNil))))) [6])) (scSeq (scIf (tbV (acN allP (alCons (acLc false (acIt (acV 5)) (.tp [(.nm 7), (.nm 8)]) tbYes (ac2 (eqO E.ow) (acV 8) (acC (.str "kept"))) [7, 8]) alNil))) (scSeq (scItem (acV 3) (acV 4) (acN tupleP (alCons (acLc false (acIt (acV 5)) (.tp [(.nm 7), (.nm 8)]) tbYes (ac2 subP (acN (lenO E.ow) (alCons (acV 7) alNil)) (acC (.int 1))) [7, 8]) alNil))) scNx) scNx) scNx))) (scSeq (scRet (acV 3)) scNx)))
def n_best_of : List Str := ["house", "rows", "bag", "most", "tables", "some", "name", "longer", "boxes", "sums", "box", "costs", "one", "more"]
def b_best_of (E : PEnv) : Sc := (scSeq (scSet (.nm 4) (acDc false (acIt (acV 2)) (.nm 6) tbYes (acV 6) (acCall (E.f "costs_of") 3 (alCons (acV 0) (alCons (acV 1) (alCons (acV 6) alNil)))) [6])) (scSeq (scSet (.nm 5) (acN (lstP false) (alCons (acN tupP (alCons (acN tupP alNil) (alCons (ac2 (mulP false) (acN tupP (alCons (acC (.int 0)) alNil)) (acN (lenO E.ow) (alCons (acV 1) alNil))) alNil))) alNil))) (scSeq (scFor (acIt (acV 2)) (.nm 6) (scSeq (scSet (.nm 7) (acN (lstP true) alNil)) (scSeq (scFor (acIt (acV 5)) (.tp [(.nm 8), (.nm 9)]) (scSeq (scFor (acDic itemsS (ac2 itemP (acV 4) (acV 6))) (.tp [(.nm 10), (.nm 11)]) (scSeq (scIf (tbV (ac2 ltP (acM tbCount (acV 8) (alCons (acV 10) alNil)) (acV 3))) (scSeq (scExpr (acM tbAppend (acV 7) (alCons (acN tupP (alCons (acN tupP (alStar (acV 8) (alCons (acV 10) alNil))) (alCons (acN tupleP (alCons (acLc false (acZip (acV 9) (acV 11)) (.tp [(.nm 12), (.nm 13)]) tbYes (ac2 (addP false) (acV 12) (acV 13)) [12, 13]) alNil)) alNil))) alNil))) scNx) scNx) scNx)) scNx)) (scSeq (scSet (.nm 5) (acV 7)) scNx)))) (scSeq (scRet (acIf (tbV (ac2 (neO E.ow) (acV 5) (acN (lstP false) alNil))) (acN minQ (alCons (acLc false (acIt (acV 5)) (.tp [(.nm 8), (.nm 9)]) tbYes (acN tupP (alCons (acN maxQ (alCons (acV 9) alNil)) (alCons (acV 8) alNil))) [8, 9]) alNil)) (acC .non))) scNx))))
def n_best_delivery : List Str := ["house", "order", "bag", "most"]
def b_best_delivery (E : PEnv) : Sc := (scSeq (scExpr (acCall (E.f "check_order") 2 (alCons (acV 0) (alCons (acV 1) alNil)))) (scSeq (scExpr (acCall (E.f "check_bag") 3 (alCons (acV 0) (alCons (acV 2) (alCons (acV 3) alNil))))) (scSeq (scRet (acCall (E.f "best_of") 4 (alCons (acV 0) (alCons (acN (lstP false) (alCons (acV 1) alNil)) (alCons (acV 2) (alCons (acV 3) alNil)))))) scNx)))
def n_sure_delivery : List Str := ["house", "log", "bag", "most", "rows"]
def b_sure_delivery (E : PEnv) : Sc := (scSeq (scExpr (acCall (E.f "check_log") 2 (alCons (acV 0) (alCons (acV 1) alNil)))) (scSeq (scExpr (acCall (E.f "check_bag") 3 (alCons (acV 0) (alCons (acV 2) (alCons (acV 3) alNil))))) (scSeq (scSet (.nm 4) (acCall (E.f "left_by") 3 (alCons (acV 0) (alCons (acCall (E.f "all_orders") 1 (alCons (acV 0) alNil)) (alCons (acV 1) alNil))))) (scSeq (scExpr (acCall (E.f "need_some") 1 (alCons (acV 4) alNil))) (scSeq (scRet (acCall (E.f "best_of") 4 (alCons (acV 0) (alCons (acV 4) (alCons (acV 2) (alCons (acV 3) alNil)))))) scNx)))))
end Lp
namespace Lp
open PySem L2 Lo
def n_with_manner : List Str := ["house", "name", "manner"]
def b_with_manner (E : PEnv) : Sc := (scSeq (scRet (acCall (initF false 0 (E.i "House")) 3 (alCons (acAttr (E.a "folk") "folk" (acV 0)) (alCons (acAttr (E.a "signs") "signs" (acV 0)) (alCons acNo alNil))))) scNx)
def n_check_letters : List Str := ["house", "letters", "index", "name", "box"]
def b_check_letters (E : PEnv) : Sc := (scSeq (scFor (acEnum (acV 1)) (.tp [(.nm 2), (.tp [(.nm 3), (.nm 4)])]) (scSeq (scIf (tbOr (tbV (ac2 (eqO E.ow) (acV 2) (acC (.int 12)))) (tbOr (tbV (ac2 notInP (acV 3) (acAttr (E.a "names") "names" (acV 0)))) (tbNot (tbV (acCall (E.f "is_number") 3 (alCons (acV 4) (alCons (acC (.int 0)) (alCons (ac2 subP (acN (lenO E.ow) (alCons (acV 0) alNil)) (acC (.int 1))) alNil)))))))) (scSeq (scRzI 34 ["index"] (alCons (acV 2) alNil)) scNx) scNx) scNx)) scNx)
def n_learned : List Str := ["house", "order", "name", "boxes", "guess", "place", "box", "owner", "manner"]
def b_learned (E : PEnv) : Sc := (scSeq (scSet (.nm 5) (acM tbIndex (acAttr (E.a "names") "names" (acV 0)) (alCons (acV 2) alNil))) (scSeq (scFor (acIt (acSl false (acV 3) aoNone (aoSome (ac1 negP (acC (.int 1)))))) (.nm 6) (scSeq (scSet (.nm 7) (acCall (E.f "owner_of") 3 (alCons (acV 0) (alCons (acV 1) (alCons (acV 6) alNil))))) (scSeq (scSet (.nm 8) (ac2 itemP (acAttr (E.a "manners") "manners" (acV 0)) (acV 7))) (scSeq (scSet (.nm 0) (acCall (E.f "with_manner") 3 (alCons (acV 0) (alCons (acV 7) (alCons (ac2 (addP false) (ac2 (addP false) (acSl false (acV 8) aoNone (aoSome (acV 5))) (acN tupP (alCons (acV 4) alNil))) (acSl false (acV 8) (aoSome (ac2 (addP false) (acV 5) (acC (.int 1)))) aoNone)) alNil))))) scNx)))) (scSeq (scRet (acV 0)) scNx)))
def n_behind_letter : List Str := ["house", "order", "name", "box", "boxes", "word"]
def b_behind_letter (E : PEnv) : Sc := (scSeq (scSet (.tp [(.nm 4), (.nm 5)]) (acCall (E.f "way_of") 4 (alCons (acV 0) (alCons (acV 1) (alCons (acV 2) (alCons (acV 3) alNil)))))) (scSeq (scIf (tbV (ac2 (eqO E.ow) (acV 5) (acC (.str "kept")))) (scSeq (scSet (.nm 0) (acCall (E.f "learned") 5 (alCons (acV 0) (alCons (acV 1) (alCons (acV 2) (alCons (acV 4) (alCons (ac2 itemP (acV 4) (ac1 negP (acC (.int 1)))) alNil))))))) scNx) (scSeq (scIf (tbV (ac2 (eqO E.ow) (acV 5) (acC (.str "back")))) (scSeq (scSet (.nm 0) (acCall (E.f "learned") 5 (alCons (acV 0) (alCons (acV 1) (alCons (acV 2) (alCons (acV 4) (alCons (acC .non) alNil))))))) scNx) scNx) scNx)) (scSeq (scRet (acN tupP (alCons (acV 0) (alCons (acV 5) (alCons (ac2 subP (acN (lenO E.ow) (alCons (acV 4) alNil)) (acC (.int 1))) alNil))))) scNx)))
def n_behind_letters : List Str := ["house", "order", "letters", "words", "handed", "name", "box", "word", "more"]
def b_behind_letters (E : PEnv) : Sc := (scSeq (scPar [.nm 3, .nm 4] (alCons (acN (lstP true) alNil) (alCons (acC (.int 0)) alNil))) (scSeq (scFor (acIt (acV 2)) (.tp [(.nm 5), (.nm 6)]) (scSeq (scSet (.tp [(.nm 0), (.nm 7), (.nm 8)]) (acCall (E.f "behind_letter") 4 (alCons (acV 0) (alCons (acV 1) (alCons (acV 5) (alCons (acV 6) alNil)))))) (scSeq (scExpr (acM tbAppend (acV 3) (alCons (acV 7) alNil))) (scSeq (scAugN 4 (intP yes2 fun i j => .int (i + j)) (acV 8)) scNx)))) (scSeq (scRet (acN tupP (alCons (acV 0) (alCons (acN tupleP (alCons (acV 3) alNil)) (alCons (acV 4) alNil))))) scNx)))
def n_check_taught : List Str := ["house", "order", "letters"]
def b_check_taught (E : PEnv) : Sc := (scSeq (scExpr (acCall (E.f "check_order") 2 (alCons (acV 0) (alCons (acV 1) alNil)))) (scSeq (scExpr (acCall (E.f "check_letters") 2 (alCons (acV 0) (alCons (acV 2) alNil)))) scNx))
def n_taught : List Str := ["house", "order", "letters"]
def b_taught (E : PEnv) : Sc := (scSeq (scExpr (acCall (E.f "check_taught") 3 (alCons (acV 0) (alCons (acV 1) (alCons (acV 2) alNil))))) (scSeq (scRet (acSl false (acCall (E.f "behind_letters") 3 (alCons (acV 0) (alCons (acV 1) (alCons (acV 2) alNil)))) aoNone (aoSome (acC (.int 2))))) scNx))
def n_Rounds___init__ : List Str := ["self", "house", "order", "letters", "words", "handed"]
def b_Rounds___init__ (E : PEnv) : Sc := (scSeq (scAtt2 (E.a "houses") "houses" (acV 0) (E.a "rows") "rows" (acV 0) (acN tupP (alCons (acN (lstP true) alNil) (alCons (acN (lstP true) alNil) alNil)))) (scSeq (scWhile (tbV (ac2 (inO E.ow true) (acV 1) (acAttr (E.a "houses") "houses" (acV 0)))) (scSeq (scExpr (acM tbAppend (acAttr (E.a "houses") "houses" (acV 0)) (alCons (acV 1) alNil))) (scSeq (scSet (.tp [(.nm 1), (.nm 4), (.nm 5)]) (acCall (E.f "behind_letters") 3 (alCons (acV 1) (alCons (acV 2) (alCons (acV 3) alNil))))) (scSeq (scExpr (acM tbAppend (acAttr (E.a "rows") "rows" (acV 0)) (alCons (acN tupP (alCons (acV 4) (alCons (acV 5) alNil))) alNil))) scNx)))) (scSeq (scAttr (E.a "turn") "turn" (acV 0) (acM (tbIndexO E.ow) (acAttr (E.a "houses") "houses" (acV 0)) (alCons (acV 1) alNil))) scNx)))
def n_Rounds_place_of : List Str := ["self", "count"]
def b_Rounds_place_of (E : PEnv) : Sc := (scSeq (scIf (tbV (ac2 ltP (acV 1) (acN (lenO E.ow) (alCons (acAttr (E.a "houses") "houses" (acV 0)) alNil)))) (scSeq (scRet (acV 1)) scNx) scNx) (scSeq (scRet (ac2 (addP false) (acAttr (E.a "turn") "turn" (acV 0)) (ac2 modP (acN intP1 (alCons (ac2 subP (acV 1) (acAttr (E.a "turn") "turn" (acV 0))) alNil)) (ac2 subP (acN (lenO E.ow) (alCons (acAttr (E.a "houses") "houses" (acV 0)) alNil)) (acAttr (E.a "turn") "turn" (acV 0)))))) scNx))
def n_Rounds_sums : List Str := ["self", "count", "kept", "handed", "words"]
def b_Rounds_sums (E : PEnv) : Sc := (scSeq (scSet (.nm 2) (acLc false (acIt (acAttr (E.a "rows") "rows" (acV 0))) (.tp [(.nm 4), (.nm 3)]) tbYes (acM tbCount (acV 4) (alCons (acC (.str "kept")) alNil)) [4, 3])) (scSeq (scSet (.nm 3) (acLc false (acIt (acAttr (E.a "rows") "rows" (acV 0))) (.tp [(.nm 4), (.nm 3)]) tbYes (acV 3) [4, 3])) (scSeq (scRet (acN tupP (alCons (acMet false 4 "sum_of" (E.m "sum_of") 2 (acV 0) (alCons (acV 2) (alCons (acV 1) alNil))) (alCons (acMet false 4 "sum_of" (E.m "sum_of") 2 (acV 0) (alCons (acV 3) (alCons (acV 1) alNil))) alNil)))) scNx)))
def n_Rounds_sum_of : List Str := ["self", "values", "count", "ring", "more"]
def b_Rounds_sum_of (E : PEnv) : Sc := (scSeq (scIf (tbV (ac2 leP (acV 2) (acN (lenO E.ow) (alCons (acV 1) alNil)))) (scSeq (scRet (acN sumP (alCons (acSl false (acV 1) aoNone (aoSome (acV 2))) alNil))) scNx) scNx) (scSeq (scSet (.nm 3) (acSl false (acV 1) (aoSome (acAttr (E.a "turn") "turn" (acV 0))) aoNone)) (scSeq (scSet (.nm 4) (ac2 subP (acV 2) (acN (lenO E.ow) (alCons (acV 1) alNil)))) (scSeq (scRet (ac2 (addP false) (ac2 (addP false) (acN sumP (alCons (acV 1) alNil)) (ac2 (mulP false) (ac2 fdivP (acV 4) (acN (lenO E.ow) (alCons (acV 3) alNil))) (acN sumP (alCons (acV 3) alNil)))) (acN sumP (alCons (acSl false (acV 3) aoNone (aoSome (ac2 modP (acN intP1 (alCons (acV 4) alNil)) (acN (lenO E.ow) (alCons (acV 3) alNil))))) alNil)))) scNx))))
def n_taught_far : List Str := ["house", "order", "letters", "count", "rounds"]
def b_taught_far (E : PEnv) : Sc := (scSeq (scExpr (acCall (E.f "check_taught") 3 (alCons (acV 0) (alCons (acV 1) (alCons (acV 2) alNil))))) (scSeq (scExpr (acCall (E.f "check_number") 3 (alCons (acV 3) (alCons (acC (.int 0)) (alCons (acC (.int 1000000000000000000)) alNil))))) (scSeq (scSet (.nm 4) (acRaw (initF true 4 (E.i "Rounds")) 3 (alCons (acV 0) (alCons (acV 1) (alCons (acV 2) alNil))))) (scSeq (scRet (acN tupP (alCons (ac2 itemP (acAttr (E.a "houses") "houses" (acV 4)) (acMet false 4 "place_of" (E.m "place_of") 1 (acV 4) (alCons (acV 3) alNil))) (alStar (acMet false 4 "sums" (E.m "sums") 1 (acV 4) (alCons (acV 3) alNil)) alNil)))) scNx))))
def n_settled_after : List Str := ["house", "order", "letters", "rounds"]
def b_settled_after (E : PEnv) : Sc := (scSeq (scExpr (acCall (E.f "check_taught") 3 (alCons (acV 0) (alCons (acV 1) (alCons (acV 2) alNil))))) (scSeq (scSet (.nm 3) (acRaw (initF true 4 (E.i "Rounds")) 3 (alCons (acV 0) (alCons (acV 1) (alCons (acV 2) alNil))))) (scSeq (scRet (acIf (tbV (ac2 (eqO E.ow) (acAttr (E.a "turn") "turn" (acV 3)) (ac2 subP (acN (lenO E.ow) (alCons (acAttr (E.a "houses") "houses" (acV 3)) alNil)) (acC (.int 1))))) (acAttr (E.a "turn") "turn" (acV 3)) (acC .non))) scNx)))
def n_first_kept : List Str := ["house", "order", "letters", "index", "words", "row"]
def b_first_kept (E : PEnv) : Sc := (scSeq (scExpr (acCall (E.f "check_taught") 3 (alCons (acV 0) (alCons (acV 1) (alCons (acV 2) alNil))))) (scSeq (scExpr (acCall (E.f "check_number") 3 (alCons (acV 3) (alCons (acC (.int 0)) (alCons (ac2 subP (acN (lenO E.ow) (alCons (acV 2) alNil)) (acC (.int 1))) alNil))))) (scSeq (scSet (.nm 4) (acLc false (acIt (acAttr (E.a "rows") "rows" (acRaw (initF true 4 (E.i "Rounds")) 3 (alCons (acV 0) (alCons (acV 1) (alCons (acV 2) alNil)))))) (.nm 5) tbYes (ac2 itemP (ac2 itemP (acV 5) (acC (.int 0))) (acV 3)) [5])) (scSeq (scRet (acIf (tbV (ac2 inP (acC (.str "kept")) (acV 4))) (acM tbIndex (acV 4) (alCons (acC (.str "kept")) alNil)) (acC .non))) scNx))))
end Lp
namespace L35
open PySem L2 Lo
def n_law : List Str := ["_law_script", "_law_row", "_law_house", "_law_turn", "_law_order", "_law_letters", "_law_wrong", "_law_k", "_law_some", "_law_due", "_law_count", "_law_is_good", "_law_late", "_law_index"]
def b_law (E : PEnv) : Sc := (scSeq (scSet (.nm 1) (acN (lstP true) (alCons (acV 0) (alCons (acC (.int 0)) (alCons (acC (.int 0)) (alCons (acC (.int 0)) alNil)))))) (scSeq (scSet (.nm 2) (acCall (initF false 0 (E.i "House")) 3 (alCons (acN tupP (alCons (acC (.str "ant")) (alCons (acC (.str "bee")) alNil))) (alCons (acN tupP (alCons (acC (.str "")) (alCons (acC (.str "")) (alCons (acC (.str "")) alNil)))) (alCons (acDsp false [((acC (.str "ant")), (acN tupP (alCons (acC .non) (alCons (acC (.int 1)) alNil)))), ((acC (.str "bee")), (acN tupP (alCons (acC (.int 0)) (alCons (acC (.int 2)) alNil))))]) alNil))))) (scSeq (scFor (acRng1 (acC (.int 8))) (.nm 3) (scSeq (scSet (.nm 4) (ac2 itemP (acN (lstP false) (alCons (acN tupP (alCons (acC (.int 0)) (alCons (acC (.int 1)) alNil))) (alCons (acN tupP (alCons (acC (.int 2)) (alCons (acC (.int 0)) alNil))) (alCons (acN tupP (alCons (acC (.int 0)) (alCons (acC (.int 0)) alNil))) (alCons (acN tupP (alCons (acC (.int 0)) alNil)) (alCons (acN tupP (alCons (acC (.int 0)) (alCons (acC (.int 3)) alNil))) (alCons (acN tupP (alCons (acC (.int 0)) (alCons (acC (.int 1)) (alCons (acC (.int 2)) alNil)))) (alCons (acN tupP (alCons (ac2 subP (acC (.int 0)) (acC (.int 1))) (alCons (acC (.int 1)) alNil))) alNil)))))))) (acCall (E.f "_law_taken") 2 (alCons (acV 1) (alCons (acC (.int 7)) alNil))))) (scSeq (scPar [.nm 5, .nm 6] (alCons (ac2 (mulP true) (acN (lstP false) (alCons (acN tupP (alCons (acC (.str "ant")) (alCons (acC (.int 2)) alNil))) alNil)) (acCall (E.f "_law_taken") 2 (alCons (acV 1) (alCons (acC (.int 15)) alNil)))) (alCons (acN (lstP false) alNil) alNil))) (scSeq (scFor (acRng1 (acN (lenO E.ow) (alCons (acV 5) alNil))) (.nm 7) (scSeq (scIf (tbV (ac2 (eqO E.ow) (acCall (E.f "_law_taken") 2 (alCons (acV 1) (alCons (acC (.int 9)) alNil))) (acC (.int 0)))) (scSeq (scItem (acV 5) (acV 7) (ac2 itemP (acN (lstP false) (alCons (acN tupP (alCons (acC (.str "cat")) (alCons (acC (.int 0)) alNil))) (alCons (acN tupP (alCons (acC (.str "bee")) (alCons (acC (.int 3)) alNil))) (alCons (acN tupP (alCons (acC (.str "ant")) (alCons (ac2 subP (acC (.int 0)) (acC (.int 1))) alNil))) (alCons (acN tupP (alCons (acC (.str "")) (alCons (acC (.int 0)) alNil))) (alCons (acN tupP (alCons (acC (.str "bee")) (alCons (acC (.int 9)) alNil))) alNil)))))) (acCall (E.f "_law_taken") 2 (alCons (acV 1) (alCons (acC (.int 5)) alNil))))) scNx) scNx) (scSeq (scSet (.nm 6) (ac2 (addP false) (acV 6) (ac2 (mulP false) (acN (lstP false) (alCons (acV 7) alNil)) (acN intP1 (alCons (acOr (ac2 (neO E.ow) (ac2 itemP (acV 5) (acV 7)) (acN tupP (alCons (acC (.str "ant")) (alCons (acC (.int 2)) alNil)))) (ac2 gtP (acV 7) (acC (.int 11)))) alNil))))) scNx))) (scSeq (scSet (.nm 8) (acN tupleP (alCons (acV 5) alNil))) (scSeq (scSet (.nm 9) (acIf (tbV (ac2 (neO E.ow) (acV 6) (acN (lstP false) alNil))) (acN tupP (alCons (acC (.str "letters")) (alCons (ac2 itemP (acV 6) (acC (.int 0))) alNil))) (acC .non))) (scSeq (scIf (tbV (ac2 notInP (acV 4) (acN tupP (alCons (acN tupP (alCons (acC (.int 0)) (alCons (acC (.int 1)) alNil))) (alCons (acN tupP (alCons (acC (.int 2)) (alCons (acC (.int 0)) alNil))) alNil))))) (scSeq (scSet (.nm 9) (acC (.str "order"))) scNx) scNx) (scSeq (scIf (tbV (ac2 (neO E.ow) (acTold E.sub 2 .drop [⟨22, none, (scSeq (scRet (acC (.str "order"))) scNx)⟩, ⟨34, some 1, (scSeq (scRet (acN tupP (alCons (acC (.str "letters")) (alCons (acXf "index" (acV 1)) alNil)))) scNx)⟩, ⟨29, none, (scSeq (scRet (acC (.str "number"))) scNx)⟩] (acCall (E.f "taught") 3 (alCons (acV 2) (alCons (acV 4) (alCons (acV 8) alNil))))) (acV 9))) (scSeq (scRet (acC (.bl false))) scNx) scNx) (scSeq (scIf (tbV (ac2 (neO E.ow) (acTold E.sub 2 .drop [⟨22, none, (scSeq (scRet (acC (.str "order"))) scNx)⟩, ⟨34, some 1, (scSeq (scRet (acN tupP (alCons (acC (.str "letters")) (alCons (acXf "index" (acV 1)) alNil)))) scNx)⟩, ⟨29, none, (scSeq (scRet (acC (.str "number"))) scNx)⟩] (acCall (E.f "settled_after") 3 (alCons (acV 2) (alCons (acV 4) (alCons (acV 8) alNil))))) (acV 9))) (scSeq (scRet (acC (.bl false))) scNx) scNx) (scSeq (scSet (.nm 10) (ac2 itemP (acN (lstP false) (alCons (acC (.int 0)) (alCons (ac2 powP (acC (.int 10)) (acC (.int 18))) (alCons (ac2 (addP false) (ac2 powP (acC (.int 10)) (acC (.int 18))) (acC (.int 1))) (alCons (ac2 subP (acC (.int 0)) (acC (.int 1))) (alCons (ac2 powP (acC (.int 10)) (acC (.int 19))) alNil)))))) (acCall (E.f "_law_taken") 2 (alCons (acV 1) (alCons (acC (.int 5)) alNil))))) (scSeq (scSet (.nm 11) (ac2 inP (acV 10) (acN tupP (alCons (acC (.int 0)) (alCons (ac2 powP (acC (.int 10)) (acC (.int 18))) alNil))))) (scSeq (scSet (.nm 12) (acIf (tbV (ac2 isNotP (acV 9) (acC .non))) (acV 9) (acIf (tbV (acV 11)) (acC .non) (acC (.str "number"))))) (scSeq (scIf (tbV (ac2 (neO E.ow) (acTold E.sub 2 .drop [⟨22, none, (scSeq (scRet (acC (.str "order"))) scNx)⟩, ⟨34, some 1, (scSeq (scRet (acN tupP (alCons (acC (.str "letters")) (alCons (acXf "index" (acV 1)) alNil)))) scNx)⟩, ⟨29, none, (scSeq (scRet (acC (.str "number"))) scNx)⟩] (acCall (E.f "taught_far") 4 (alCons (acV 2) (alCons (acV 4) (alCons (acV 8) (alCons (acV 10) alNil)))))) (acV 12))) (scSeq (scRet (acC (.bl false))) scNx) scNx) (scSeq (scSet (.nm 13) (ac2 subP (acCall (E.f "_law_taken") 2 (alCons (acV 1) (alCons (acC (.int 14)) alNil))) (acC (.int 1)))) (scSeq (scSet (.nm 12) (acIf (tbV (ac2 isNotP (acV 9) (acC .non))) (acV 9) (acIf (tbV (acCh leP ltP (acC (.int 0)) (acV 13) (acN (lenO E.ow) (alCons (acV 8) alNil)))) (acC .non) (acC (.str "number"))))) (scSeq (scIf (tbV (ac2 (neO E.ow) (acTold E.sub 2 .drop [⟨22, none, (scSeq (scRet (acC (.str "order"))) scNx)⟩, ⟨34, some 1, (scSeq (scRet (acN tupP (alCons (acC (.str "letters")) (alCons (acXf "index" (acV 1)) alNil)))) scNx)⟩, ⟨29, none, (scSeq (scRet (acC (.str "number"))) scNx)⟩] (acCall (E.f "first_kept") 4 (alCons (acV 2) (alCons (acV 4) (alCons (acV 8) (alCons (acV 13) alNil)))))) (acV 12))) (scSeq (scRet (acC (.bl false))) scNx) scNx) scNx)))))))))))))))) (scSeq (scRet (acC (.bl true))) scNx))))
end L35
namespace L35
open PySem L2 Lo Lp
def ks : List Hdl := [⟨22, none, (scSeq (scRet (acC (.str "order"))) scNx)⟩, ⟨34, some 1, (scSeq (scRet (acN tupP (alCons (acC (.str "letters")) (alCons (acXf "index" (acV 1)) alNil)))) scNx)⟩, ⟨29, none, (scSeq (scRet (acC (.str "number"))) scNx)⟩]
def a_tail (E : PEnv) : Sc := (scSeq (scSet (.nm 8) (acN tupleP (alCons (acV 5) alNil))) (scSeq (scSet (.nm 9) (acIf (tbV (ac2 (neO E.ow) (acV 6) (acN (lstP false) alNil))) (acN tupP (alCons (acC (.str "letters")) (alCons (ac2 itemP (acV 6) (acC (.int 0))) alNil))) (acC .non))) (scSeq (scIf (tbV (ac2 notInP (acV 4) (acN tupP (alCons (acN tupP (alCons (acC (.int 0)) (alCons (acC (.int 1)) alNil))) (alCons (acN tupP (alCons (acC (.int 2)) (alCons (acC (.int 0)) alNil))) alNil))))) (scSeq (scSet (.nm 9) (acC (.str "order"))) scNx) scNx) (scSeq (scIf (tbV (ac2 (neO E.ow) (acTold E.sub 2 .drop ks (acCall (E.f "taught") 3 (alCons (acV 2) (alCons (acV 4) (alCons (acV 8) alNil))))) (acV 9))) (scSeq (scRet (acC (.bl false))) scNx) scNx) (scSeq (scIf (tbV (ac2 (neO E.ow) (acTold E.sub 2 .drop ks (acCall (E.f "settled_after") 3 (alCons (acV 2) (alCons (acV 4) (alCons (acV 8) alNil))))) (acV 9))) (scSeq (scRet (acC (.bl false))) scNx) scNx) (scSeq (scSet (.nm 10) (ac2 itemP (acN (lstP false) (alCons (acC (.int 0)) (alCons (ac2 powP (acC (.int 10)) (acC (.int 18))) (alCons (ac2 (addP false) (ac2 powP (acC (.int 10)) (acC (.int 18))) (acC (.int 1))) (alCons (ac2 subP (acC (.int 0)) (acC (.int 1))) (alCons (ac2 powP (acC (.int 10)) (acC (.int 19))) alNil)))))) (acCall (E.f "_law_taken") 2 (alCons (acV 1) (alCons (acC (.int 5)) alNil))))) (scSeq (scSet (.nm 11) (ac2 inP (acV 10) (acN tupP (alCons (acC (.int 0)) (alCons (ac2 powP (acC (.int 10)) (acC (.int 18))) alNil))))) (scSeq (scSet (.nm 12) (acIf (tbV (ac2 isNotP (acV 9) (acC .non))) (acV 9) (acIf (tbV (acV 11)) (acC .non) (acC (.str "number"))))) (scSeq (scIf (tbV (ac2 (neO E.ow) (acTold E.sub 2 .drop ks (acCall (E.f "taught_far") 4 (alCons (acV 2) (alCons (acV 4) (alCons (acV 8) (alCons (acV 10) alNil)))))) (acV 12))) (scSeq (scRet (acC (.bl false))) scNx) scNx) (scSeq (scSet (.nm 13) (ac2 subP (acCall (E.f "_law_taken") 2 (alCons (acV 1) (alCons (acC (.int 14)) alNil))) (acC (.int 1)))) (scSeq (scSet (.nm 12) (acIf (tbV (ac2 isNotP (acV 9) (acC .non))) (acV 9) (acIf (tbV (acCh leP ltP (acC (.int 0)) (acV 13) (acN (lenO E.ow) (alCons (acV 8) alNil)))) (acC .non) (acC (.str "number"))))) (scSeq (scIf (tbV (ac2 (neO E.ow) (acTold E.sub 2 .drop ks (acCall (E.f "first_kept") 4 (alCons (acV 2) (alCons (acV 4) (alCons (acV 8) (alCons (acV 13) alNil)))))) (acV 12))) (scSeq (scRet (acC (.bl false))) scNx) scNx) scNx))))))))))))
def a_in (E : PEnv) : Sc := (scSeq (scIf (tbV (ac2 (eqO E.ow) (acCall (E.f "_law_taken") 2 (alCons (acV 1) (alCons (acC (.int 9)) alNil))) (acC (.int 0)))) (scSeq (scItem (acV 5) (acV 7) (ac2 itemP (acN (lstP false) (alCons (acN tupP (alCons (acC (.str "cat")) (alCons (acC (.int 0)) alNil))) (alCons (acN tupP (alCons (acC (.str "bee")) (alCons (acC (.int 3)) alNil))) (alCons (acN tupP (alCons (acC (.str "ant")) (alCons (ac2 subP (acC (.int 0)) (acC (.int 1))) alNil))) (alCons (acN tupP (alCons (acC (.str "")) (alCons (acC (.int 0)) alNil))) (alCons (acN tupP (alCons (acC (.str "bee")) (alCons (acC (.int 9)) alNil))) alNil)))))) (acCall (E.f "_law_taken") 2 (alCons (acV 1) (alCons (acC (.int 5)) alNil))))) scNx) scNx) (scSeq (scSet (.nm 6) (ac2 (addP false) (acV 6) (ac2 (mulP false) (acN (lstP false) (alCons (acV 7) alNil)) (acN intP1 (alCons (acOr (ac2 (neO E.ow) (ac2 itemP (acV 5) (acV 7)) (acN tupP (alCons (acC (.str "ant")) (alCons (acC (.int 2)) alNil)))) (ac2 gtP (acV 7) (acC (.int 11)))) alNil))))) scNx))
def b2_law (E : PEnv) : Sc := (scSeq (scSet (.nm 1) (acN (lstP true) (alCons (acV 0) (alCons (acC (.int 0)) (alCons (acC (.int 0)) (alCons (acC (.int 0)) alNil)))))) (scSeq (scSet (.nm 2) (acCall (initF false 0 (E.i "House")) 3 (alCons (acN tupP (alCons (acC (.str "ant")) (alCons (acC (.str "bee")) alNil))) (alCons (acN tupP (alCons (acC (.str "")) (alCons (acC (.str "")) (alCons (acC (.str "")) alNil)))) (alCons (acDsp false [((acC (.str "ant")), (acN tupP (alCons (acC .non) (alCons (acC (.int 1)) alNil)))), ((acC (.str "bee")), (acN tupP (alCons (acC (.int 0)) (alCons (acC (.int 2)) alNil))))]) alNil))))) (scSeq (scFor (acRng1 (acC (.int 8))) (.nm 3) (scSeq (scSet (.nm 4) (ac2 itemP (acN (lstP false) (alCons (acN tupP (alCons (acC (.int 0)) (alCons (acC (.int 1)) alNil))) (alCons (acN tupP (alCons (acC (.int 2)) (alCons (acC (.int 0)) alNil))) (alCons (acN tupP (alCons (acC (.int 0)) (alCons (acC (.int 0)) alNil))) (alCons (acN tupP (alCons (acC (.int 0)) alNil)) (alCons (acN tupP (alCons (acC (.int 0)) (alCons (acC (.int 3)) alNil))) (alCons (acN tupP (alCons (acC (.int 0)) (alCons (acC (.int 1)) (alCons (acC (.int 2)) alNil)))) (alCons (acN tupP (alCons (ac2 subP (acC (.int 0)) (acC (.int 1))) (alCons (acC (.int 1)) alNil))) alNil)))))))) (acCall (E.f "_law_taken") 2 (alCons (acV 1) (alCons (acC (.int 7)) alNil))))) (scSeq (scPar [.nm 5, .nm 6] (alCons (ac2 (mulP true) (acN (lstP false) (alCons (acN tupP (alCons (acC (.str "ant")) (alCons (acC (.int 2)) alNil))) alNil)) (acCall (E.f "_law_taken") 2 (alCons (acV 1) (alCons (acC (.int 15)) alNil)))) (alCons (acN (lstP false) alNil) alNil))) (scSeq (scFor (acRng1 (acN (lenO E.ow) (alCons (acV 5) alNil))) (.nm 7) (a_in E)) (a_tail E))))) (scSeq (scRet (acC (.bl true))) scNx))))
theorem b_eq (E : PEnv) : b_law E = b2_law E := rfl
def Hd : D := .obj 0 [.tup [.str "ant", .str "bee"], .tup [.str "", .str "", .str ""], .dic [(.inr "ant", .tup [.non, .int 1]), (.inr "bee", .tup [.int 0, .int 2])]]
def ords : List D := [.tup [.int 0, .int 1], .tup [.int 2, .int 0], .tup [.int 0, .int 0], .tup [.int 0], .tup [.int 0, .int 3], .tup [.int 0, .int 1, .int 2], .tup [.int (-1), .int 1]]
def cnts : List Int := [0, 1000000000000000000, 1000000000000000001, -1, 10000000000000000000]
def A2 : D := .tup [.str "ant", .int 2]
def bads : List D := [.tup [.str "cat", .int 0], .tup [.str "bee", .int 3], .tup [.str "ant", .int (-1)], .tup [.str "", .int 0], .tup [.str "bee", .int 9]]
inductive BC (k : Nat) (bag : List D) : List Int → Prop
  | good : k ≤ 12 → k ≤ bag.length → (∀ x ∈ bag, x = A2) → BC k bag []
  | bad {w : Nat} {x : D} {rest : List D} {ws : List Int} : w < k → w ≤ 12 → bag = List.replicate w A2 ++ x :: rest → (w = 12 ∧ x = A2 ∨ x ∈ bads) → BC k bag ((w : Int) :: ws)
def Lt (bag : List D) : Prop := ∀ x ∈ bag, x = A2 ∨ x ∈ bads
structure Env35 (E : PEnv) : Prop where
  tk : S_taken (E.f "_law_taken")
  house : ∀ h, LowH h → callM (initF false 0 (E.i "House")) [.tup [.str "ant", .str "bee"], .tup [.str "", .str "", .str ""], .dic [(.inr "ant", .tup [.non, .int 1]), (.inr "bee", .tup [.int 0, .int 2])]] h = .ok Hd h
  t22 : ∀ h, resT (tryH E.sub 22 [] [none, none] h ks) = .ok (.str "order") h
  t34 : ∀ h i, resT (tryH E.sub 34 [("index", .int i)] [none, none] h ks) = .ok (.tup [.str "letters", .int i]) h
  t29 : ∀ h, resT (tryH E.sub 29 [] [none, none] h ks) = .ok (.str "number") h
  ta : ∀ h (j : Nat) (bag : List D) (ws : List Int), j < 7 → Lt bag → BC bag.length bag ws → ∃ r, callM (E.f "taught") [Hd, ords.getD j .non, .tup bag] h = r ∧
    (if 2 ≤ j then r = .ex 22 [] h else match ws with | w :: _ => r = .ex 34 [("index", .int w)] h | [] => ∃ d, r = .ok d h)
  se : ∀ h (j : Nat) (bag : List D) (ws : List Int), j < 7 → Lt bag → BC bag.length bag ws → ∃ r, callM (E.f "settled_after") [Hd, ords.getD j .non, .tup bag] h = r ∧
    (if 2 ≤ j then r = .ex 22 [] h else match ws with | w :: _ => r = .ex 34 [("index", .int w)] h | [] => ∃ d, r = .ok d h)
  tf : ∀ h (j m : Nat) (bag : List D) (ws : List Int), j < 7 → m < 5 → Lt bag → BC bag.length bag ws → ∃ r, callM (E.f "taught_far") [Hd, ords.getD j .non, .tup bag, .int (cnts.getD m 0)] h = r ∧
    (if 2 ≤ j then r = .ex 22 [] h else match ws with | w :: _ => r = .ex 34 [("index", .int w)] h | [] => if 2 ≤ m then r = .ex 29 [] h else ∃ d, r = .ok d h)
  fk : ∀ h (j : Nat) (v : Int) (bag : List D) (ws : List Int), j < 7 → 0 ≤ v → v < 14 → Lt bag → BC bag.length bag ws → ∃ r, callM (E.f "first_kept") [Hd, ords.getD j .non, .tup bag, .int (v - 1)] h = r ∧
    (if 2 ≤ j then r = .ex 22 [] h else match ws with | w :: _ => r = .ex 34 [("index", .int w)] h | [] => if 0 ≤ v - 1 ∧ v - 1 < (bag.length : Int) then ∃ d, r = .ok d h else r = .ex 29 [] h)
section
variable {E : PEnv}
theorem bl_eq {h : List O} {b c : Bool} (e : b = c) : some (D.bl b, h) = some (D.bl c, h) := by rw [e]
theorem v_notin {h : List O} {d : D} {xs : List D} (h1 : dat 30 d = true) (h2 : dats 29 xs = true) : notInP d (.tup xs) h = some (.bl (!xs.any fun z => eqPl z d), h) := by
  have := v_in_tup (h := h) h1 h2
  unfold inP at this
  unfold notInP
  cases e : inD h d (.tup xs) with
  | none => rw [e] at this; cases this
  | some b => rw [e] at this; cases this; rfl
theorem v_lenT {ow : OwnV} {h : List O} {xs : List D} (hz : xs.length < 1000) : lenO ow [.tup xs] h = some (.int xs.length, h) := by
  simp [v_len_tup]
theorem cnt_pick {h : List O} {v : Int} (h0 : 0 ≤ v) (h1 : v < 5) : itemP (.lst [.int 0, .int 1000000000000000000, .int 1000000000000000001, .int (-1), .int 10000000000000000000]) (.int v) h = some (.int (cnts.getD v.toNat 0), h) := by
  rw [v_pick h0 (by simpa using h1)]
  obtain ⟨n, rfl⟩ := Int.eq_ofNat_of_zero_le h0
  match n, h1 with
  | 0, _ => rfl
  | 1, _ => rfl
  | 2, _ => rfl
  | 3, _ => rfl
  | 4, _ => rfl
  | n + 5, h => exact absurd h (by omega)
theorem tail35 (e : Env35 E) {sc : D} {z3 z7 z8 z9 z10 z11 z12 z13 : Option D} {r : O} {rest : List O} {n j : Nat} {bag : List D} {ws : List Int} (hr : IsRow r) (lh : LowH (r :: rest)) (hn1 : 1 ≤ n) (hn : (r :: rest)[n]? = some (.lst bag)) (hj : j < 7) (lt : Lt bag) (hb : bag.length ≤ 14) (bc : BC bag.length bag ws) :
    ∃ y8 y9 y10 y11 y12 y13 r', IsRow r' ∧ LowH (r' :: rest) ∧ a_tail E [some sc, some (.loc 0), some Hd, z3, some (ords.getD j .non), some (.loc n), some (.lst (ws.map .int)), z7, z8, z9, z10, z11, z12, z13] (r :: rest) = .nx [some sc, some (.loc 0), some Hd, z3, some (ords.getD j .non), some (.loc n), some (.lst (ws.map .int)), z7, y8, y9, y10, y11, y12, y13] (r' :: rest) := by
  obtain ⟨v4, r4, e4, p4, q4, hr4, lh4⟩ := e.tk r rest 5 hr (by decide) (by decide) lh
  obtain ⟨v5, r5, e5, p5, q5, hr5, lh5⟩ := e.tk r4 rest 14 hr4 (by decide) (by decide) lh4
  obtain ⟨q1, e1, f1⟩ := e.ta (r :: rest) j bag ws hj lt bc
  obtain ⟨q2, e2, f2⟩ := e.se (r :: rest) j bag ws hj lt bc
  have hm : v4.toNat < 5 := by omega
  obtain ⟨q3, e3, f3⟩ := e.tf (r4 :: rest) j v4.toNat bag ws hj hm lt bc
  obtain ⟨q6, e6, f6⟩ := e.fk (r5 :: rest) j v5 bag ws hj p5 q5 lt bc
  have F1 : ∀ h, notInP (ords.getD j .non) (.tup [.tup [.int 0, .int 1], .tup [.int 2, .int 0]]) h = some (.bl (decide (2 ≤ j)), h) := fun h => by
    rw [v_notin (by match j, hj with | 0, _ => decide +kernel | 1, _ => decide +kernel | 2, _ => decide +kernel | 3, _ => decide +kernel | 4, _ => decide +kernel | 5, _ => decide +kernel | 6, _ => decide +kernel) (by decide +kernel)]
    refine bl_eq ?_
    match j, hj with | 0, _ => decide +kernel | 1, _ => decide +kernel | 2, _ => decide +kernel | 3, _ => decide +kernel | 4, _ => decide +kernel | 5, _ => decide +kernel | 6, _ => decide +kernel
  have F2 : ∀ h, inP (.int (cnts.getD v4.toNat 0)) (.tup [.int 0, .int 1000000000000000000]) h = some (.bl (!decide (2 ≤ v4.toNat)), h) := fun h => by
    rw [v_in_tup (by simp [dat]) (by decide +kernel)]
    refine bl_eq ?_
    generalize v4.toNat = m at hm
    match m, hm with | 0, _ => decide +kernel | 1, _ => decide +kernel | 2, _ => decide +kernel | 3, _ => decide +kernel | 4, _ => decide +kernel
  have PW : ∀ h, powP (.int 10) (.int 18) h = some (.int 1000000000000000000, h) := fun h => rfl
  have PW2 : ∀ h, powP (.int 10) (.int 19) h = some (.int 10000000000000000000, h) := fun h => rfl
  have AD : ∀ h, addP false (.int 1000000000000000000) (.int 1) h = some (.int 1000000000000000001, h) := fun h => rfl
  have SU : ∀ h, subP (.int 0) (.int 1) h = some (.int (-1), h) := fun h => rfl
  have SV : ∀ h, subP (.int v5) (.int 1) h = some (.int (v5 - 1), h) := fun h => rfl
  have PC := cnt_pick (h := r4 :: rest) p4 q4
  generalize ords.getD j .non = od at *
  generalize hmm : cnts.getD v4.toNat 0 = mm at *
  have dw : dat 30 (.lst (ws.map .int)) = true := by
    simp only [dat, dats_all, List.all_map, List.all_eq_true]
    intro x hx
    rfl
  have dt : ∀ (x : Str) (i : Int), PyData.strOk x = true → dat 30 (.tup [.str x, .int i]) = true := fun x i hx => by simp [dat, dats, hx]
  have ne_self : ∀ h d, dat 30 d = true → neO E.ow d d h = some (.bl false, h) := fun h d hd => by rw [v_ne hd hd, eqPl_self hd]; rfl
  have sb : PyData.strOk "letters" = true := by decide +kernel
  have so : dat 30 (.str "order") = true := by decide +kernel
  have sn : dat 30 (.str "number") = true := by decide +kernel
  have nn : dat 30 .non = true := by decide +kernel
  have hv := v_tupleP_loc hn
  have LN : ∀ h, lenO E.ow [.tup bag] h = some (.int bag.length, h) := fun h => v_lenT (by omega)
  generalize v5 - 1 = i5 at *
  suffices hs : ∃ y8 y9 y10 y11 y12 y13, a_tail E [some sc, some (.loc 0), some Hd, z3, some od, some (.loc n), some (.lst (ws.map .int)), z7, z8, z9, z10, z11, z12, z13] (r :: rest) = .nx [some sc, some (.loc 0), some Hd, z3, some od, some (.loc n), some (.lst (ws.map .int)), z7, y8, y9, y10, y11, y12, y13] (r5 :: rest) by
    obtain ⟨y8, y9, y10, y11, y12, y13, hs⟩ := hs
    exact ⟨y8, y9, y10, y11, y12, y13, r5, hr5, lh5, hs⟩
  rcases ws with _ | ⟨w, ws⟩
  · have W0 : ∀ h, neO E.ow (.lst []) (.lst []) h = some (.bl false, h) := fun h => by rw [v_ne (by decide +kernel) (by decide +kernel)]; rfl
    by_cases hj2 : 2 ≤ j
    · simp only [hj2, if_true, decide_true] at f1 f2 f3 f6 F1
      simp [W0, a_tail, x_V, v_list, v_tup, F1, F2, PW, PW2, AD, SU, SV, PC, e1, e2, e3, e4, e5, e6, f1, f2, f3, f6, hv, LN, e.t22, e.t34, e.t29, ne_self, so, sn, nn, dt, sb, -v_item_lst, -List.getD_eq_getElem?_getD]
    · simp only [hj2, if_false, decide_false] at f1 f2 f3 f6 F1
      obtain ⟨d1, f1⟩ := f1
      obtain ⟨d2, f2⟩ := f2
      by_cases hm2 : 2 ≤ v4.toNat
      · simp only [hm2, if_true, decide_true, Bool.not_true] at f3 F2
        by_cases i0 : 0 ≤ i5
        · by_cases i1 : i5 < (bag.length : Int)
          · rw [if_pos ⟨i0, i1⟩] at f6
            obtain ⟨d6, f6⟩ := f6
            simp [W0, i0, i1, a_tail, x_V, v_list, v_tup, F1, F2, PW, PW2, AD, SU, SV, PC, e1, e2, e3, e4, e5, e6, f1, f2, f3, f6, hv, LN, e.t22, e.t34, e.t29, ne_self, so, sn, nn, dt, sb, -v_item_lst, -List.getD_eq_getElem?_getD]
          · rw [if_neg (fun z => i1 z.2)] at f6
            simp [W0, i0, i1, a_tail, x_V, v_list, v_tup, F1, F2, PW, PW2, AD, SU, SV, PC, e1, e2, e3, e4, e5, e6, f1, f2, f3, f6, hv, LN, e.t22, e.t34, e.t29, ne_self, so, sn, nn, dt, sb, -v_item_lst, -List.getD_eq_getElem?_getD]
        · rw [if_neg (fun z => i0 z.1)] at f6
          simp [W0, i0, a_tail, x_V, v_list, v_tup, F1, F2, PW, PW2, AD, SU, SV, PC, e1, e2, e3, e4, e5, e6, f1, f2, f3, f6, hv, LN, e.t22, e.t34, e.t29, ne_self, so, sn, nn, dt, sb, -v_item_lst, -List.getD_eq_getElem?_getD]
      · simp only [hm2, if_false, decide_false, Bool.not_false] at f3 F2
        obtain ⟨d3, f3⟩ := f3
        by_cases i0 : 0 ≤ i5
        · by_cases i1 : i5 < (bag.length : Int)
          · rw [if_pos ⟨i0, i1⟩] at f6
            obtain ⟨d6, f6⟩ := f6
            simp [W0, i0, i1, a_tail, x_V, v_list, v_tup, F1, F2, PW, PW2, AD, SU, SV, PC, e1, e2, e3, e4, e5, e6, f1, f2, f3, f6, hv, LN, e.t22, e.t34, e.t29, ne_self, so, sn, nn, dt, sb, -v_item_lst, -List.getD_eq_getElem?_getD]
          · rw [if_neg (fun z => i1 z.2)] at f6
            simp [W0, i0, i1, a_tail, x_V, v_list, v_tup, F1, F2, PW, PW2, AD, SU, SV, PC, e1, e2, e3, e4, e5, e6, f1, f2, f3, f6, hv, LN, e.t22, e.t34, e.t29, ne_self, so, sn, nn, dt, sb, -v_item_lst, -List.getD_eq_getElem?_getD]
        · rw [if_neg (fun z => i0 z.1)] at f6
          simp [W0, i0, a_tail, x_V, v_list, v_tup, F1, F2, PW, PW2, AD, SU, SV, PC, e1, e2, e3, e4, e5, e6, f1, f2, f3, f6, hv, LN, e.t22, e.t34, e.t29, ne_self, so, sn, nn, dt, sb, -v_item_lst, -List.getD_eq_getElem?_getD]
  · have W1 : ∀ h, neO E.ow (.lst (.int w :: ws.map D.int)) (.lst []) h = some (.bl true, h) := fun h => by
      have dw : dat 30 (.lst (.int w :: ws.map D.int)) = true := dw
      rw [v_ne dw (by decide +kernel)]
      simp
    have W2 : ∀ h, itemP (.lst (.int w :: ws.map D.int)) (.int 0) h = some (.int w, h) := fun h => by simp [atI, ixN]
    by_cases hj2 : 2 ≤ j
    · simp only [hj2, if_true, decide_true] at f1 f2 f3 f6 F1
      simp [W1, W2, a_tail, x_V, v_list, v_tup, F1, F2, PW, PW2, AD, SU, SV, PC, e1, e2, e3, e4, e5, e6, f1, f2, f3, f6, hv, LN, e.t22, e.t34, e.t29, ne_self, so, sn, nn, dt, sb, -v_item_lst, -List.getD_eq_getElem?_getD]
    · simp only [hj2, if_false, decide_false] at f1 f2 f3 f6 F1
      simp [W1, W2, a_tail, x_V, v_list, v_tup, F1, F2, PW, PW2, AD, SU, SV, PC, e1, e2, e3, e4, e5, e6, f1, f2, f3, f6, hv, LN, e.t22, e.t34, e.t29, ne_self, so, sn, nn, dt, sb, -v_item_lst, -List.getD_eq_getElem?_getD]
end
end L35
namespace L35
open PySem L2 Lo Lp
section
variable {E : PEnv}
theorem set_rep {w k : Nat} {x y : D} {rest : List D} (hk : w < k) : (List.replicate w A2 ++ x :: rest).set k y = List.replicate w A2 ++ x :: rest.set (k - w - 1) y := by
  rw [List.set_append_right _ _ (by simp; omega), List.length_replicate]
  obtain ⟨j, hj⟩ : ∃ j, k - w = j + 1 := ⟨k - w - 1, by omega⟩
  rw [hj, List.set_cons_succ]
  simp
theorem all_rep {bag : List D} (h : ∀ x ∈ bag, x = A2) {k : Nat} (hk : k < bag.length) : bag = List.replicate k A2 ++ A2 :: List.replicate (bag.length - k - 1) A2 := by
  have : bag = List.replicate bag.length A2 := List.eq_replicate_iff.mpr ⟨rfl, h⟩
  rw [this]
  simp only [List.length_replicate]
  rw [← List.replicate_succ, List.replicate_append_replicate]
  congr 1
  omega
theorem bc_same {k : Nat} {bag : List D} {ws : List Int} (b : BC k bag ws) (hk : k < bag.length) : BC (k + 1) bag (ws ++ if 11 < k then [(k : Int)] else []) := by
  cases b with
  | good h1 h2 h3 =>
    by_cases h5 : 11 < k
    · have : k = 12 := by omega
      subst this
      rw [if_pos h5]
      exact .bad (w := 12) (by omega) (by omega) (all_rep h3 hk) (.inl ⟨rfl, rfl⟩)
    · rw [if_neg h5]
      exact .good (by omega) hk h3
  | bad h1 h2 h3 h4 => exact .bad (by omega) h2 h3 h4
theorem bc_set {k : Nat} {bag : List D} {ws : List Int} {x : D} (b : BC k bag ws) (hk : k < bag.length) (hx : x ∈ bads) : BC (k + 1) (bag.set k x) (ws ++ [(k : Int)]) := by
  cases b with
  | good h1 h2 h3 =>
    refine .bad (w := k) (x := x) (rest := List.replicate (bag.length - k - 1) A2) (by omega) (by omega) ?_ (.inr hx)
    conv => lhs; rw [all_rep h3 hk]
    rw [List.set_append_right _ _ (by simp), List.length_replicate, Nat.sub_self, List.set_cons_zero]
  | bad h1 h2 h3 h4 =>
    exact .bad (by omega) h2 ((congrArg (fun l : List D => l.set k x) h3).trans (set_rep h1)) h4
def II (sc : D) (z3 : Option D) (od : D) (n N : Nat) (pre : List Nat) (s : Sl) (h : List O) : Prop := ∃ (bag : List D) (ws : List Int) (z7 z8 z9 z10 z11 z12 z13 : Option D), RowH h ∧ 1 ≤ n ∧ h[n]? = some (.lst bag) ∧ bag.length = N ∧ ws.length ≤ pre.length ∧ Lt bag ∧ BC pre.length bag ws ∧ (∀ i, pre.length ≤ i → i < N → bag.getD i .non = A2) ∧
  s = [some sc, some (.loc 0), some Hd, z3, some od, some (.loc n), some (.lst (ws.map .int)), z7, z8, z9, z10, z11, z12, z13]
theorem pick_bad {v : Int} (h0 : 0 ≤ v) (h1 : v < 5) : bads.getD v.toNat .non ∈ bads := by
  obtain ⟨n, rfl⟩ := Int.eq_ofNat_of_zero_le h0
  match n, h1 with
  | 0, _ => exact .head _
  | 1, _ => exact .tail _ (.head _)
  | 2, _ => exact .tail _ (.tail _ (.head _))
  | 3, _ => exact .tail _ (.tail _ (.tail _ (.head _)))
  | 4, _ => exact .tail _ (.tail _ (.tail _ (.tail _ (.head _))))
  | n + 5, h => exact absurd h (by omega)
theorem bad_ok {x : D} (h : x ∈ bads) : dat 30 x = true ∧ eqPl x A2 = false ∧ ∀ k, lowD k x = true := by
  simp only [bads, List.mem_cons, List.not_mem_nil, or_false] at h
  rcases h with rfl | rfl | rfl | rfl | rfl <;> exact ⟨by decide +kernel, by decide +kernel, fun k => rfl⟩
theorem low_lt {k : Nat} {bag : List D} (h : Lt bag) : lowDs k bag = true := by
  induction bag with
  | nil => rfl
  | cons x r ih =>
    have h1 : lowD k x = true := by
      rcases h x (.head _) with rfl | hx
      · rfl
      · exact (bad_ok hx).2.2 k
    simp only [lowDs, h1, ih fun y hy => h y (.tail _ hy), Bool.and_self]
theorem low_bag {k : Nat} {bag : List D} (h : Lt bag) : lowO k (.lst bag) = true := low_lt h
theorem lt_set {bag : List D} {k : Nat} {x : D} (h : Lt bag) (hx : x ∈ bads) : Lt (bag.set k x) := fun y hy => by
  rcases List.mem_or_eq_of_mem_set hy with hy | rfl
  · exact h y hy
  · exact .inr hx
theorem in35 (e : Env35 E) {sc : D} {z3 : Option D} {od : D} {n N k : Nat} (hN : N ≤ 14) (hk : k < N) {pre : List Nat} (hp : pre.length = k) {s : Sl} {h : List O} (i : II sc z3 od n N pre s h) : NX (a_in E (s.set 7 (some (.int (k : Int)))) h) (II sc z3 od n N (pre ++ [k])) := by
  obtain ⟨bag, ws, z7, z8, z9, z10, z11, z12, z13, ⟨⟨r, rest, rfl, hr⟩, lh⟩, hn1, hn, hl, hw, lt, bc, ha, rfl⟩ := i
  obtain ⟨n, rfl⟩ : ∃ m, n = m + 1 := ⟨n - 1, by omega⟩
  have hnr : rest[n]? = some (.lst bag) := by simpa using hn
  obtain ⟨v, r1, e1, v0, v1, hr1, lh1⟩ := e.tk r rest 9 hr (by decide) (by decide) lh
  have hn' : (r1 :: rest)[n + 1]? = some (.lst bag) := by simpa using hnr
  have M1 : ∀ h, mulP false (.lst [.int (k : Int)]) (.int 1) h = some (.lst [.int (k : Int)], h) := fun h => v_mul_rep (n := 1) (by decide)
  have M0 : ∀ h, mulP false (.lst [.int (k : Int)]) (.int 0) h = some (.lst [], h) := fun h => v_mul_rep (n := 0) (by decide)
  have I1 : ∀ h, intP1 [.bl true] h = some (.int 1, h) := fun h => rfl
  have I0 : ∀ h, intP1 [.bl false] h = some (.int 0, h) := fun h => rfl
  have SU : ∀ h, subP (.int 0) (.int 1) h = some (.int (-1), h) := fun h => rfl
  have A1 : ∀ h, addP false (.lst (ws.map D.int)) (.lst [.int (k : Int)]) h = some (.lst ((ws ++ [(k : Int)]).map .int), h) := fun h => by
    rw [v_add_lst (by simp; omega)]
    simp
  have A0 : ∀ h, addP false (.lst (ws.map D.int)) (.lst []) h = some (.lst (ws.map .int), h) := fun h => by
    rw [v_add_lst (by simp; omega)]
    simp
  rw [hp] at bc hw
  by_cases hv : v = 0
  · subst hv
    obtain ⟨u, r2, e2, u0, u1, hr2, lh2⟩ := e.tk r1 rest 5 hr1 (by decide) (by decide) lh1
    have hn2 : (r2 :: rest)[n + 1]? = some (.lst bag) := by simpa using hnr
    obtain ⟨x, ex⟩ : ∃ x, bads.getD u.toNat .non = x := ⟨_, rfl⟩
    have hx : x ∈ bads := ex ▸ pick_bad u0 u1
    obtain ⟨ok1, ne1, _⟩ := bad_ok hx
    have P1 := v_pick (h := r2 :: rest) (xs := bads) u0 u1
    rw [ex] at P1
    simp only [bads] at P1
    have S1 := v_setI (y := x) hn2 (k := k) (by omega)
    have hn3 : ((r2 :: rest).set (n + 1) (.lst (bag.set k x)))[n + 1]? = some (.lst (bag.set k x)) := by
      rw [List.getElem?_set_self]
      have := (List.getElem?_eq_some_iff.mp hn2).1
      exact this
    have G1 : itemP (.loc (n + 1)) (.int (k : Int)) ((r2 :: rest).set (n + 1) (.lst (bag.set k x))) = some (x, (r2 :: rest).set (n + 1) (.lst (bag.set k x))) := by
      rw [v_item_loc hn3, v_ix_nat]
      simp [show k < bag.length by omega]
    have N1 : ∀ h, neO E.ow x (.tup [.str "ant", .int 2]) h = some (.bl true, h) := fun h => by
      rw [v_ne ok1 (by decide +kernel), show eqPl x (.tup [.str "ant", .int 2]) = false from ne1]
      rfl
    have Z : eqO E.ow (.int 0) (.int 0) (r1 :: rest) = some (.bl true, r1 :: rest) := by rw [v_eq (by decide +kernel) (by decide +kernel)]; rfl
    have rh : RowH ((r2 :: rest).set (n + 1) (.lst (bag.set k x))) := RowH.put ⟨⟨r2, rest, rfl, hr2⟩, lh2⟩ (low_bag (lt_set lt hx)) hn1
    simp only [List.set_cons_succ] at S1 G1 hn3 rh
    simp [a_in, x_V, v_list, v_tup, e1, e2, Z, SU, P1, S1, G1, N1, M1, I1, A1, -v_item_lst, -List.map_append]
    refine ⟨bag.set k x, ws ++ [(k : Int)], _, _, _, _, _, _, _, rh, hn1, hn3, by simpa using hl, by simp; omega, lt_set lt hx, ?_, fun i h1 h2 => ?_, rfl⟩
    · simp only [List.length_append, List.length_singleton, hp]
      exact bc_set bc (by omega) hx
    · simp only [List.length_append, List.length_singleton] at h1
      rw [List.getD_eq_getElem?_getD, List.getElem?_set_ne (by omega), ← List.getD_eq_getElem?_getD]
      exact ha i (by omega) h2
  · have hk' : k < bag.length := by omega
    have hak := ha k (by omega) hk
    have G1 : itemP (.loc (n + 1)) (.int (k : Int)) (r1 :: rest) = some (.tup [.str "ant", .int 2], r1 :: rest) := by
      rw [v_item_loc hn', v_ix_nat]
      rw [List.getD_eq_getElem?_getD, List.getElem?_eq_getElem hk'] at hak
      simp only [Option.getD_some] at hak
      simp [hk', hak, A2]
    have N1 : ∀ h, neO E.ow (.tup [.str "ant", .int 2]) (.tup [.str "ant", .int 2]) h = some (.bl false, h) := fun h => by
      rw [v_ne (by decide +kernel) (by decide +kernel)]
      rfl
    have Z : eqO E.ow (.int v) (.int 0) (r1 :: rest) = some (.bl false, r1 :: rest) := by
      rw [v_eq (by simp [dat]) (by decide +kernel)]
      simp [hv]
    have nb := bc_same bc hk'
    by_cases h5 : 11 < k
    · have h5' : (11 : Int) < (k : Int) := by omega
      rw [if_pos h5] at nb
      simp [a_in, x_V, v_list, v_tup, e1, Z, G1, N1, M1, I1, A1, h5', -List.map_append]
      refine ⟨bag, ws ++ [(k : Int)], _, _, _, _, _, _, _, ⟨⟨r1, rest, rfl, hr1⟩, lh1⟩, hn1, hn', hl, by simp; omega, lt, ?_, fun i h1 h2 => ?_, rfl⟩
      · simp only [List.length_append, List.length_singleton, hp]
        exact nb
      · simp only [List.length_append, List.length_singleton] at h1
        exact ha i (by omega) h2
    · have h5' : ¬ (11 : Int) < (k : Int) := by omega
      rw [if_neg h5, List.append_nil] at nb
      simp [a_in, x_V, v_list, v_tup, e1, Z, G1, N1, M0, I0, A0, h5']
      refine ⟨bag, ws, _, _, _, _, _, _, _, ⟨⟨r1, rest, rfl, hr1⟩, lh1⟩, hn1, hn', hl, by simp; omega, lt, ?_, fun i h1 h2 => ?_, rfl⟩
      · simp only [List.length_append, List.length_singleton, hp]
        exact nb
      · simp only [List.length_append, List.length_singleton] at h1
        exact ha i (by omega) h2
def JJ (sc : D) (pre : List Nat) (s : Sl) (h : List O) : Prop := RowH h ∧ ∃ z3 z4 z5 z6 z7 z8 z9 z10 z11 z12 z13 : Option D, s = [some sc, some (.loc 0), some Hd, z3, z4, z5, z6, z7, z8, z9, z10, z11, z12, z13]
theorem bc_all {bag : List D} {n : Nat} (h : bag = List.replicate n A2) : BC 0 bag [] := .good (by omega) (by omega) fun x hx => by rw [h] at hx; exact (List.mem_replicate.mp hx).2
theorem law35 (e : Env35 E) {ns : List Int} : ∃ h', bodyF n_law (b_law E) [.scr (ns.map D.int)] [] = .ok (.bl true) h' := by
  suffices hP : ∀ P : Res D → Prop, (∀ h', P (.ok (.bl true) h')) → P (bodyF n_law (b_law E) [.scr (ns.map D.int)] []) from
    hP (fun res => ∃ h', res = .ok (.bl true) h') fun h' => ⟨h', rfl⟩
  intro P fin
  have D1 : ∀ s h, acDsp false [((acC (.str "ant")), (acN tupP (alCons (acC .non) (alCons (acC (.int 1)) alNil)))), ((acC (.str "bee")), (acN tupP (alCons (acC (.int 0)) (alCons (acC (.int 2)) alNil))))] s h = .ok (.dic [(.inr "ant", .tup [.non, .int 1]), (.inr "bee", .tup [.int 0, .int 2])]) h := fun s h => rfl
  have hlow : LowH [rowO ns 0 0 0] := fun o ho => by
    rw [List.mem_singleton.mp ho]
    exact low_row
  have hH := e.house _ hlow
  simp only [rowO] at hH
  rw [b_eq]
  simp [bodyF, b2_law, startD, n_law, x_V, v_list, v_tup, D1, hH, inRng_of]
  rw [rngD_map]
  have SU : ∀ h, subP (.int 0) (.int 1) h = some (.int (-1), h) := fun h => rfl
  refine forF_N (fun o => P (outR o)) (JJ (.scr (ns.map D.int))) ⟨⟨⟨_, [], rfl, ns, 0, 0, 0, rfl, by decide, by decide, by decide, by decide⟩, hlow⟩, none, none, none, none, none, none, none, none, none, none, none, rfl⟩ ?_ ?_
  · rintro pre x post s h _ ⟨⟨⟨r, rest, rfl, hr⟩, lh⟩, z3, z4, z5, z6, z7, z8, z9, z10, z11, z12, z13, rfl⟩
    obtain ⟨v1, r1, e1, p1, q1, hr1, lh1⟩ := e.tk r rest 7 hr (by decide) (by decide) lh
    obtain ⟨v3, r3, e3, p3, q3, hr3, lh3⟩ := e.tk r1 rest 15 hr1 (by decide) (by decide) lh1
    obtain ⟨od, hod⟩ : ∃ d, ords.getD v1.toNat .non = d := ⟨_, rfl⟩
    have P1 := v_pick (h := r1 :: rest) (xs := ords) p1 q1
    rw [hod] at P1
    simp only [ords] at P1
    obtain ⟨N, rfl⟩ := Int.eq_ofNat_of_zero_le p3
    have hN : N ≤ 14 := by omega
    have M1 := v_mul_rep (lv := true) (x := A2) (h := r3 :: rest) (n := N) (by omega)
    obtain ⟨b0, hb0⟩ : ∃ b, b = List.replicate N A2 := ⟨_, rfl⟩
    rw [← hb0] at M1
    simp only [A2] at M1
    have hbl : b0.length = N := by rw [hb0]; simp
    have lt0 : Lt b0 := fun y hy => by rw [hb0] at hy; exact .inl (List.mem_replicate.mp hy).2
    have hget : (r3 :: (rest ++ [.lst b0]))[rest.length + 1]? = some (.lst b0) := by
      rw [List.getElem?_cons_succ]; simp
    have L1 := v_len_loc (ow := E.ow) hget
    simp only [hbl] at L1
    have rh := (show RowH (r3 :: rest) from ⟨⟨r3, rest, rfl, hr3⟩, lh3⟩).push (o := .lst b0) (low_bag lt0)
    simp [x_V, v_list, v_tup, SU, e1, e3, P1, M1, L1, inRng_nat (show N ≤ 1000000 by omega), -v_item_lst, -v_sub]
    rw [rngD_map]
    refine forF_N (fun o => NX o _) (II (.scr (ns.map D.int)) (some (.int x)) od (rest.length + 1) N) ?_ ?_ ?_
    · exact ⟨b0, [], _, _, _, _, _, _, _, by simpa using rh, by omega, hget, hbl, by simp, lt0, bc_all hb0, fun i _ h2 => by rw [hb0]; simp [h2], rfl⟩
    · rintro pre y post s h ey ii
      have hlen := congrArg List.length ey
      simp only [List.length_range, List.length_append, List.length_cons] at hlen
      have hy : y = pre.length := by
        have := congrArg (fun l : List Nat => l[pre.length]?) ey
        simp at this
        obtain ⟨_, this⟩ := List.getElem?_eq_some_iff.mp this
        simpa using this.symm
      have := in35 e (k := y) hN (by omega) hy.symm ii
      simpa using this
    · rintro s h ⟨bag, ws, z7, z8, z9, z10, z11, z12, z13, ⟨⟨r, rest', rfl, hr⟩, lh⟩, hn1, hn, hl, hw, lt, bc, _, rfl⟩
      simp only [List.length_range] at bc
      rw [← hl] at bc
      obtain ⟨y8, y9, y10, y11, y12, y13, r', hr', lh', ht⟩ := tail35 e (sc := .scr (ns.map D.int)) (z3 := some (.int x)) (z7 := z7) (z8 := z8) (z9 := z9) (z10 := z10) (z11 := z11) (z12 := z12) (z13 := z13) (j := v1.toNat) hr lh hn1 hn (by omega) lt (by omega) bc
      rw [hod] at ht
      rw [ht]
      simp
      exact ⟨⟨⟨r', rest', rfl, hr'⟩, lh'⟩, _, _, _, _, _, _, _, _, _, _, _, rfl⟩
  · rintro s h ⟨_, z3, z4, z5, z6, z7, z8, z9, z10, z11, z12, z13, rfl⟩
    simp
    exact fin _
end
end L35
namespace K35
open PySem PySem.Spec PyProof.Rows L2 Lo
def top (i : Nat) : Stmt := PySem.Challenge.pw_lostplates_k35_learning_rejected.main.body.getD i (.Pass ⟨0, 0, 0, 0⟩)
def clsAt (i j : Nat) : Stmt := (match top i with
  | .ClassDef (body := b) .. => b
  | _ => []).getD j (.Pass ⟨0, 0, 0, 0⟩)
def fb (lc : Lc) (name qual : Str) (s : Stmt) (N ps lvn : List Str) (lam : Bool) : FB := ⟨lc, name, qual, defArgs s, defBody s, defScope s, N, ps, lvn, lam⟩
def f0 : FB := fb (.m "InvalidHouse" "__init__") "__init__" "InvalidHouse.__init__" (clsAt 2 0) ["self", "part"] ["self", "part"] [] false
def f1 : FB := fb (.m "InvalidLetters" "__init__") "__init__" "InvalidLetters.__init__" (clsAt 5 0) ["self", "index"] ["self", "index"] [] false
def f2 : FB := fb (.g "is_number") "is_number" "is_number" (top 14) ["value", "smallest", "largest"] ["value", "smallest", "largest"] [] false
def f3 : FB := fb (.g "is_text") "is_text" "is_text" (top 15) ["value", "signs", "sign"] ["value", "signs"] [] false
def f4 : FB := fb (.g "are_names") "are_names" "are_names" (top 16) ["row", "one", "other", "name"] ["row"] [] false
def f5 : FB := fb (.g "are_plates") "are_plates" "are_plates" (top 17) ["row", "count", "plate"] ["row", "count"] [] false
def f6 : FB := fb (.g "is_manner") "is_manner" "is_manner" (top 18) ["value", "names", "boxes", "box"] ["value", "names", "boxes"] [] false
def f7 : FB := fb (.g "are_manners") "are_manners" "are_manners" (top 19) ["row", "names", "boxes", "name"] ["row", "names", "boxes"] [] false
def f8 : FB := fb (.m "House" "__init__") "__init__" "House.__init__" (clsAt 20 1) ["self", "names", "plates", "manners", "name"] ["self", "names", "plates", "manners"] [] false
def f9 : FB := fb (.p "House" "names") "names" "House.names" (clsAt 20 2) ["self"] ["self"] [] false
def f10 : FB := fb (.p "House" "plates") "plates" "House.plates" (clsAt 20 3) ["self"] ["self"] [] false
def f11 : FB := fb (.p "House" "manners") "manners" "House.manners" (clsAt 20 4) ["self"] ["self"] [] false
def f12 : FB := fb (.m "House" "__len__") "__len__" "House.__len__" (clsAt 20 5) ["self"] ["self"] [] false
def f13 : FB := fb (.m "House" "__eq__") "__eq__" "House.__eq__" (clsAt 20 6) ["self", "other"] ["self", "other"] [] false
def f14 : FB := fb (.g "check_number") "check_number" "check_number" (top 21) ["value", "smallest", "largest"] ["value", "smallest", "largest"] [] false
def f15 : FB := fb (.g "with_manner") "with_manner" "with_manner" (top 22) ["house", "name", "manner"] ["house", "name", "manner"] [] false
def f16 : FB := fb (.g "is_order") "is_order" "is_order" (top 24) ["house", "order", "box"] ["house", "order"] [] false
def f17 : FB := fb (.g "check_order") "check_order" "check_order" (top 25) ["house", "order"] ["house", "order"] [] false
def f18 : FB := fb (.g "owner_of") "owner_of" "owner_of" (top 26) ["house", "order", "box"] ["house", "order", "box"] [] false
def f19 : FB := fb (.g "handed_on") "handed_on" "handed_on" (top 31) ["house", "owner", "name", "box", "manner", "goal"] ["house", "owner", "name", "box"] [] false
def f20 : FB := fb (.g "way_of") "way_of" "way_of" (top 32) ["house", "order", "name", "box", "boxes", "here", "owner", "goal"] ["house", "order", "name", "box"] ["boxes"] false
def f21 : FB := fb (.g "check_letters") "check_letters" "check_letters" (top 37) ["house", "letters", "index", "name", "box"] ["house", "letters"] [] false
def f22 : FB := fb (.g "learned") "learned" "learned" (top 38) ["house", "order", "name", "boxes", "guess", "place", "box", "owner", "manner"] ["house", "order", "name", "boxes", "guess"] [] false
def f23 : FB := fb (.g "behind_letter") "behind_letter" "behind_letter" (top 39) ["house", "order", "name", "box", "boxes", "word"] ["house", "order", "name", "box"] [] false
def f24 : FB := fb (.g "behind_letters") "behind_letters" "behind_letters" (top 40) ["house", "order", "letters", "words", "handed", "name", "box", "word", "more"] ["house", "order", "letters"] ["words"] false
def f25 : FB := fb (.g "check_taught") "check_taught" "check_taught" (top 41) ["house", "order", "letters"] ["house", "order", "letters"] [] false
def f26 : FB := fb (.g "taught") "taught" "taught" (top 42) ["house", "order", "letters"] ["house", "order", "letters"] [] false
def f27 : FB := fb (.m "Rounds" "__init__") "__init__" "Rounds.__init__" (clsAt 43 0) ["self", "house", "order", "letters", "words", "handed"] ["self", "house", "order", "letters"] ["houses", "rows"] false
def f28 : FB := fb (.m "Rounds" "place_of") "place_of" "Rounds.place_of" (clsAt 43 1) ["self", "count"] ["self", "count"] [] false
def f29 : FB := fb (.m "Rounds" "sums") "sums" "Rounds.sums" (clsAt 43 2) ["self", "count", "kept", "handed", "words"] ["self", "count"] [] false
def f30 : FB := fb (.m "Rounds" "sum_of") "sum_of" "Rounds.sum_of" (clsAt 43 3) ["self", "values", "count", "ring", "more"] ["self", "values", "count"] [] false
def f31 : FB := fb (.g "taught_far") "taught_far" "taught_far" (top 44) ["house", "order", "letters", "count", "rounds"] ["house", "order", "letters", "count"] [] false
def f32 : FB := fb (.g "settled_after") "settled_after" "settled_after" (top 45) ["house", "order", "letters", "rounds"] ["house", "order", "letters"] [] false
def f33 : FB := fb (.g "first_kept") "first_kept" "first_kept" (top 46) ["house", "order", "letters", "index", "words", "row"] ["house", "order", "letters", "index"] [] false
def f34 : FB := fb (.g "_law_taken") "_law_taken" "_law_taken" (top 48) ["_law_row", "_law_many", "_law_cell", "_law_found"] ["_law_row", "_law_many"] ["_law_row"] false
def f35 : FB := fb (.g "_law_told") "_law_told" "_law_told" (top 49) ["_law_work", "e"] ["_law_work"] [] false
def f36 : FB := fb (.g "law") "law" "law" (top 50) ["_law_script", "_law_row", "_law_house", "_law_turn", "_law_order", "_law_letters", "_law_wrong", "_law_k", "_law_some", "_law_due", "_law_count", "_law_is_good", "_law_late", "_law_index"] ["_law_script"] ["_law_letters", "_law_row"] true
def gcs : List (Str × D) := [("LETTERS", .str "abcdefghijklmnopqrstuvwxyz"), ("POINT", .str "."), ("MAX_LETTERS_houses", .int 8), ("MAX_NAMES", .int 6), ("MAX_BOXES", .int 6), ("BACK_houses", .str "back"), ("KEEP", .str "keep"), ("House", .cl 0), ("KEPT", .str "kept"), ("LIES", .str "lies"), ("ROUND", .str "round"), ("MAX_LETTERS_learning", .int 12), ("MAX_ROUNDS", .int 1000000000000000000), ("BACK_learning", .str "back"), ("Rounds", .cl 4)]
def fnss : List (Str × (Nat × Nat)) := ([("is_number", (2, 3)), ("is_text", (3, 2)), ("are_names", (4, 1)), ("are_plates", (5, 2)), ("is_manner", (6, 3)), ("are_manners", (7, 3)), ("check_number", (14, 3)), ("with_manner", (15, 3)), ("is_order", (16, 2)), ("check_order", (17, 2)), ("owner_of", (18, 3)), ("handed_on", (19, 4)), ("way_of", (20, 4)), ("check_letters", (21, 2)), ("learned", (22, 5)), ("behind_letter", (23, 4)), ("behind_letters", (24, 3)), ("check_taught", (25, 3)), ("taught", (26, 3)), ("taught_far", (31, 4))] : List (Str × (Nat × Nat))) ++ ([("settled_after", (32, 3)), ("first_kept", (33, 4)), ("_law_taken", (34, 2)), ("_law_told", (35, 1)), ("law", (36, 1))] : List (Str × (Nat × Nat)))
def clss : List (Str × ClI) := [("House", ⟨0, 8, 3, false⟩), ("Rounds", ⟨4, 27, 3, true⟩)]
def metss : List (Str × MeI) := [("place_of", ⟨false, 4, 28, 1⟩), ("sums", ⟨false, 4, 29, 1⟩), ("sum_of", ⟨false, 4, 30, 2⟩)]
def atss : List (Str × List (Nat × AkS)) := [("folk", [(0, .slot 0)]), ("signs", [(0, .slot 1)]), ("ways", [(0, .slot 2)]), ("names", [(0, .prop 9)]), ("plates", [(0, .prop 10)]), ("manners", [(0, .prop 11)]), ("turn", [(4, .fld)]), ("houses", [(4, .fld)]), ("rows", [(4, .fld)])]
def globs : List Str := ((["__name__", "PlateError", "InvalidHouse", "InvalidOrder", "InvalidNumber", "InvalidLetters", "LETTERS", "POINT", "MAX_LETTERS_houses", "MAX_NAMES", "MAX_BOXES", "BACK_houses", "KEEP", "is_number", "is_text", "are_names", "are_plates", "is_manner", "are_manners", "House"] : List Str) ++ (["check_number", "with_manner", "is_order", "check_order", "owner_of", "KEPT", "LIES", "ROUND", "handed_on", "way_of", "MAX_LETTERS_learning", "MAX_ROUNDS", "BACK_learning", "check_letters", "learned", "behind_letter", "behind_letters", "check_taught", "taught", "Rounds"] : List Str) ++ (["taught_far", "settled_after", "first_kept", "_law_taken", "_law_told", "law"] : List Str))
def wds : List (Str × List (Str × D)) := []
def exss : List (Str × XcI) := [("PlateError", ⟨20, none⟩), ("InvalidHouse", ⟨21, some ["part"]⟩), ("InvalidOrder", ⟨22, none⟩), ("InvalidNumber", ⟨29, none⟩), ("InvalidLetters", ⟨34, some ["index"]⟩)]
def subss : List (Nat × List Nat) := [(20, [20]), (21, [21, 20]), (22, [22, 20]), (29, [29, 20]), (34, [34, 20])]
def xfss : List Str := ["part", "index"]
def tolds : List (Str × TdI) := [("_law_told", tdOf f35)]
def st : ST := ⟨gcs, fnss, clss, metss, atss, (0, some 12, some 13), globs, wds, exss, subss, xfss, tolds⟩
def txt : Txt := ⟨st, [f0, f1, f2, f3, f4, f5, f6, f7, f8, f9, f10, f11, f12, f13, f14, f15, f16, f17, f18, f19, f20, f21, f22, f23, f24, f25, f26, f27, f28, f29, f30, f31, f32, f33, f34, f35, f36], ((["House", "", "", "", "Rounds", "", "", "", "", "", "", "", "", "", "", "", "", "", "", ""] : List Str) ++ (["PlateError", "InvalidHouse", "InvalidOrder", "", "", "", "", "", "", "InvalidNumber", "", "", "", "", "InvalidLetters"] : List Str)), [("InvalidHouse", 0), ("InvalidLetters", 1)], "PlateError"⟩
def lawI : Nat := 36
theorem bind : BindOk txt := fun i b e dV kV doc pm an cdv ct us hd hl => by
  subst hd
  match i, e with
  | 0, e => cases e; match us, hl with | [_, _], _ => rfl
  | 1, e => cases e; match us, hl with | [_, _], _ => rfl
  | 2, e => cases e; match us, hl with | [_, _, _], _ => rfl
  | 3, e => cases e; match us, hl with | [_, _], _ => rfl
  | 4, e => cases e; match us, hl with | [_], _ => rfl
  | 5, e => cases e; match us, hl with | [_, _], _ => rfl
  | 6, e => cases e; match us, hl with | [_, _, _], _ => rfl
  | 7, e => cases e; match us, hl with | [_, _, _], _ => rfl
  | 8, e => cases e; match us, hl with | [_, _, _, _], _ => rfl
  | 9, e => cases e; match us, hl with | [_], _ => rfl
  | 10, e => cases e; match us, hl with | [_], _ => rfl
  | 11, e => cases e; match us, hl with | [_], _ => rfl
  | 12, e => cases e; match us, hl with | [_], _ => rfl
  | 13, e => cases e; match us, hl with | [_, _], _ => rfl
  | 14, e => cases e; match us, hl with | [_, _, _], _ => rfl
  | 15, e => cases e; match us, hl with | [_, _, _], _ => rfl
  | 16, e => cases e; match us, hl with | [_, _], _ => rfl
  | 17, e => cases e; match us, hl with | [_, _], _ => rfl
  | 18, e => cases e; match us, hl with | [_, _, _], _ => rfl
  | 19, e => cases e; match us, hl with | [_, _, _, _], _ => rfl
  | 20, e => cases e; match us, hl with | [_, _, _, _], _ => rfl
  | 21, e => cases e; match us, hl with | [_, _], _ => rfl
  | 22, e => cases e; match us, hl with | [_, _, _, _, _], _ => rfl
  | 23, e => cases e; match us, hl with | [_, _, _, _], _ => rfl
  | 24, e => cases e; match us, hl with | [_, _, _], _ => rfl
  | 25, e => cases e; match us, hl with | [_, _, _], _ => rfl
  | 26, e => cases e; match us, hl with | [_, _, _], _ => rfl
  | 27, e => cases e; match us, hl with | [_, _, _, _], _ => rfl
  | 28, e => cases e; match us, hl with | [_, _], _ => rfl
  | 29, e => cases e; match us, hl with | [_, _], _ => rfl
  | 30, e => cases e; match us, hl with | [_, _, _], _ => rfl
  | 31, e => cases e; match us, hl with | [_, _, _, _], _ => rfl
  | 32, e => cases e; match us, hl with | [_, _, _], _ => rfl
  | 33, e => cases e; match us, hl with | [_, _, _, _], _ => rfl
  | 34, e => cases e; match us, hl with | [_, _], _ => rfl
  | 35, e => cases e; match us, hl with | [_], _ => rfl
  | 36, e => cases e; match us, hl with | [_], _ => rfl
  | n + 37, e => cases e
theorem scs : scAll txt = true := by decide +kernel
theorem xia : xiAll txt = true := by decide +kernel
theorem tds : TdsOk txt := tds_one (i := 35) rfl rfl rfl rfl rfl rfl rfl
def looseA : List (List Str) := [((["__name__", "PlateError", "InvalidHouse", "InvalidOrder", "InvalidNumber", "InvalidLetters", "LETTERS", "POINT", "MAX_LETTERS_houses", "MAX_NAMES", "MAX_BOXES", "BACK_houses", "KEEP", "is_number", "is_text", "are_names", "are_plates", "is_manner", "are_manners", "House"] : List Str) ++ (["check_number", "with_manner", "is_order", "check_order", "owner_of", "KEPT", "LIES", "ROUND", "handed_on", "way_of"] : List Str)), ["MAX_LETTERS_learning", "MAX_ROUNDS", "BACK_learning", "check_letters", "learned", "behind_letter", "behind_letters", "check_taught", "taught", "Rounds", "taught_far", "settled_after", "first_kept", "_law_taken", "_law_told"]]
def lawAt : Nat := 50
theorem e_is_number (k : Nat) : fnD txt (k + 1) 2 = bodyF Lp.n_is_number (Lp.b_is_number (txt.env k)) := rfl
theorem e_is_text (k : Nat) : fnD txt (k + 1) 3 = bodyF Lp.n_is_text (Lp.b_is_text (txt.env k)) := rfl
theorem e_are_names (k : Nat) : fnD txt (k + 1) 4 = bodyF Lp.n_are_names (Lp.b_are_names (txt.env k)) := rfl
theorem e_are_plates (k : Nat) : fnD txt (k + 1) 5 = bodyF Lp.n_are_plates (Lp.b_are_plates (txt.env k)) := rfl
theorem e_is_manner (k : Nat) : fnD txt (k + 1) 6 = bodyF Lp.n_is_manner (Lp.b_is_manner (txt.env k)) := rfl
theorem e_are_manners (k : Nat) : fnD txt (k + 1) 7 = bodyF Lp.n_are_manners (Lp.b_are_manners (txt.env k)) := rfl
theorem e_House___init__ (k : Nat) : fnD txt (k + 1) 8 = bodyF Lp.n_House___init__ (Lp.b_House___init__ (txt.env k)) := rfl
theorem e_House_names (k : Nat) : fnD txt (k + 1) 9 = bodyF Lp.n_House_names (Lp.b_House_names (txt.env k)) := rfl
theorem e_House_plates (k : Nat) : fnD txt (k + 1) 10 = bodyF Lp.n_House_plates (Lp.b_House_plates (txt.env k)) := rfl
theorem e_House_manners (k : Nat) : fnD txt (k + 1) 11 = bodyF Lp.n_House_manners (Lp.b_House_manners (txt.env k)) := rfl
theorem e_House___len__ (k : Nat) : fnD txt (k + 1) 12 = bodyF Lp.n_House___len__ (Lp.b_House___len__ (txt.env k)) := rfl
theorem e_House___eq__ (k : Nat) : fnD txt (k + 1) 13 = bodyF Lp.n_House___eq__ (Lp.b_House___eq__ (txt.env k)) := rfl
theorem e_check_number (k : Nat) : fnD txt (k + 1) 14 = bodyF Lp.n_check_number (Lp.b_check_number (txt.env k)) := rfl
theorem e_with_manner (k : Nat) : fnD txt (k + 1) 15 = bodyF Lp.n_with_manner (Lp.b_with_manner (txt.env k)) := rfl
theorem e_is_order (k : Nat) : fnD txt (k + 1) 16 = bodyF Lp.n_is_order (Lp.b_is_order (txt.env k)) := rfl
theorem e_check_order (k : Nat) : fnD txt (k + 1) 17 = bodyF Lp.n_check_order (Lp.b_check_order (txt.env k)) := rfl
theorem e_owner_of (k : Nat) : fnD txt (k + 1) 18 = bodyF Lp.n_owner_of (Lp.b_owner_of (txt.env k)) := rfl
theorem e_handed_on (k : Nat) : fnD txt (k + 1) 19 = bodyF Lp.n_handed_on (Lp.b_handed_on (txt.env k)) := rfl
theorem e_way_of (k : Nat) : fnD txt (k + 1) 20 = bodyF Lp.n_way_of (Lp.b_way_of (txt.env k)) := rfl
theorem e_check_letters (k : Nat) : fnD txt (k + 1) 21 = bodyF Lp.n_check_letters (Lp.b_check_letters (txt.env k)) := rfl
theorem e_learned (k : Nat) : fnD txt (k + 1) 22 = bodyF Lp.n_learned (Lp.b_learned (txt.env k)) := rfl
theorem e_behind_letter (k : Nat) : fnD txt (k + 1) 23 = bodyF Lp.n_behind_letter (Lp.b_behind_letter (txt.env k)) := rfl
theorem e_behind_letters (k : Nat) : fnD txt (k + 1) 24 = bodyF Lp.n_behind_letters (Lp.b_behind_letters (txt.env k)) := rfl
theorem e_check_taught (k : Nat) : fnD txt (k + 1) 25 = bodyF Lp.n_check_taught (Lp.b_check_taught (txt.env k)) := rfl
theorem e_taught (k : Nat) : fnD txt (k + 1) 26 = bodyF Lp.n_taught (Lp.b_taught (txt.env k)) := rfl
theorem e_Rounds___init__ (k : Nat) : fnD txt (k + 1) 27 = bodyF Lp.n_Rounds___init__ (Lp.b_Rounds___init__ (txt.env k)) := rfl
theorem e_Rounds_place_of (k : Nat) : fnD txt (k + 1) 28 = bodyF Lp.n_Rounds_place_of (Lp.b_Rounds_place_of (txt.env k)) := rfl
theorem e_Rounds_sums (k : Nat) : fnD txt (k + 1) 29 = bodyF Lp.n_Rounds_sums (Lp.b_Rounds_sums (txt.env k)) := rfl
theorem e_Rounds_sum_of (k : Nat) : fnD txt (k + 1) 30 = bodyF Lp.n_Rounds_sum_of (Lp.b_Rounds_sum_of (txt.env k)) := rfl
theorem e_taught_far (k : Nat) : fnD txt (k + 1) 31 = bodyF Lp.n_taught_far (Lp.b_taught_far (txt.env k)) := rfl
theorem e_settled_after (k : Nat) : fnD txt (k + 1) 32 = bodyF Lp.n_settled_after (Lp.b_settled_after (txt.env k)) := rfl
theorem e_first_kept (k : Nat) : fnD txt (k + 1) 33 = bodyF Lp.n_first_kept (Lp.b_first_kept (txt.env k)) := rfl
theorem e__law_taken (k : Nat) : fnD txt (k + 1) 34 = bodyF Lp.n__law_taken (Lp.b__law_taken (txt.env k)) := rfl
theorem e_law (k : Nat) : fnD txt (k + 1) 36 = bodyF L35.n_law (L35.b_law (txt.env k)) := rfl
end K35
namespace K35
open PySem L2 Lo Lp L35
theorem g_taken (k : Nat) : S_taken ((txt.env (k + 1)).f "_law_taken") := (show (txt.env (k + 1)).f "_law_taken" = _ from e__law_taken k) ▸ k_taken
def isX (c : Nat) : Res D → Bool
  | .ex c' [] [] => c' == c
  | _ => false
theorem isX_of {c : Nat} {r : Res D} (h : isX c r = true) : r = .ex c [] [] := by
  unfold isX at h
  split at h
  · rw [beq_iff_eq.mp h]
  · cases h
def rp (n : Nat) : D := .tup (List.replicate n A2)
def TA (j n : Nat) : Res D := callM (fnD txt 8 26) [Hd, ords.getD j .non, rp n] []
def SE (j n : Nat) : Res D := callM (fnD txt 8 32) [Hd, ords.getD j .non, rp n] []
def TF (j n m : Nat) : Res D := callM (fnD txt 8 31) [Hd, ords.getD j .non, rp n, .int (cnts.getD m 0)] []
def FK (j n v : Nat) : Res D := callM (fnD txt 8 33) [Hd, ords.getD j .non, rp n, .int ((v : Int) - 1)] []
theorem allTA : ∀ j, j < 2 → ∀ n, n < 13 → okR (TA j n) = true := by decide +kernel
theorem allSE : ∀ j, j < 2 → ∀ n, n < 13 → okR (SE j n) = true := by decide +kernel
def chkT (j n m : Nat) : Bool := if 2 ≤ m then isX 29 (TF j n m) else okR (TF j n m)
def chkF (j n v : Nat) : Bool := if 1 ≤ v ∧ v < n + 1 then okR (FK j n v) else isX 29 (FK j n v)
theorem allTF : ∀ j, j < 2 → ∀ n, n < 13 → ∀ m, m < 5 → chkT j n m = true := by decide +kernel
theorem allFK : ∀ j, j < 2 → ∀ n, n < 13 → ∀ v, v < 14 → chkF j n v = true := by decide +kernel
end K35
namespace K35
open PySem L2 Lo Lp L35
theorem co_ok : ∀ j, j < 2 → callM ((txt.env 6).f "check_order") [Hd, ords.getD j .non] [] = .ok .non []
  | 0, _ => by kernel_rfl
  | 1, _ => by kernel_rfl
  | n + 2, h => absurd h (by omega)
theorem co_ex : ∀ j, 2 ≤ j → j < 7 → callM ((txt.env 6).f "check_order") [Hd, ords.getD j .non] [] = .ex 22 [] []
  | 2, _, _ => by kernel_rfl
  | 3, _, _ => by kernel_rfl
  | 4, _, _ => by kernel_rfl
  | 5, _, _ => by kernel_rfl
  | 6, _, _ => by kernel_rfl
  | 0, h, _ => absurd h (by omega)
  | 1, h, _ => absurd h (by omega)
  | n + 7, _, h => absurd h (by omega)
theorem cb_raw12 (rest : List D) : ∀ x, x = A2 ∨ x ∈ bads → fnD txt 6 21 [Hd, .tup (List.replicate 12 A2 ++ x :: rest)] [] = .ex 34 [("index", .int 12)] [] := by
  intro x hx
  simp only [bads, List.mem_cons, List.not_mem_nil, or_false] at hx
  rcases hx with rfl | rfl | rfl | rfl | rfl | rfl <;> kernel_rfl
theorem cb_raw (rest : List D) : ∀ w, w < 12 → ∀ x ∈ bads, fnD txt 6 21 [Hd, .tup (List.replicate w A2 ++ x :: rest)] [] = .ex 34 [("index", .int (w : Int))] []
  | 0, _, x, hx => by simp only [bads, List.mem_cons, List.not_mem_nil, or_false] at hx; rcases hx with rfl | rfl | rfl | rfl | rfl <;> kernel_rfl
  | 1, _, x, hx => by simp only [bads, List.mem_cons, List.not_mem_nil, or_false] at hx; rcases hx with rfl | rfl | rfl | rfl | rfl <;> kernel_rfl
  | 2, _, x, hx => by simp only [bads, List.mem_cons, List.not_mem_nil, or_false] at hx; rcases hx with rfl | rfl | rfl | rfl | rfl <;> kernel_rfl
  | 3, _, x, hx => by simp only [bads, List.mem_cons, List.not_mem_nil, or_false] at hx; rcases hx with rfl | rfl | rfl | rfl | rfl <;> kernel_rfl
  | 4, _, x, hx => by simp only [bads, List.mem_cons, List.not_mem_nil, or_false] at hx; rcases hx with rfl | rfl | rfl | rfl | rfl <;> kernel_rfl
  | 5, _, x, hx => by simp only [bads, List.mem_cons, List.not_mem_nil, or_false] at hx; rcases hx with rfl | rfl | rfl | rfl | rfl <;> kernel_rfl
  | 6, _, x, hx => by simp only [bads, List.mem_cons, List.not_mem_nil, or_false] at hx; rcases hx with rfl | rfl | rfl | rfl | rfl <;> kernel_rfl
  | 7, _, x, hx => by simp only [bads, List.mem_cons, List.not_mem_nil, or_false] at hx; rcases hx with rfl | rfl | rfl | rfl | rfl <;> kernel_rfl
  | 8, _, x, hx => by simp only [bads, List.mem_cons, List.not_mem_nil, or_false] at hx; rcases hx with rfl | rfl | rfl | rfl | rfl <;> kernel_rfl
  | 9, _, x, hx => by simp only [bads, List.mem_cons, List.not_mem_nil, or_false] at hx; rcases hx with rfl | rfl | rfl | rfl | rfl <;> kernel_rfl
  | 10, _, x, hx => by simp only [bads, List.mem_cons, List.not_mem_nil, or_false] at hx; rcases hx with rfl | rfl | rfl | rfl | rfl <;> kernel_rfl
  | 11, _, x, hx => by simp only [bads, List.mem_cons, List.not_mem_nil, or_false] at hx; rcases hx with rfl | rfl | rfl | rfl | rfl <;> kernel_rfl
  | n + 12, h, _, _ => absurd h (by omega)
theorem low_ord : ∀ j, j < 7 → lowD 0 (ords.getD j .non) = true
  | 0, _ => rfl
  | 1, _ => rfl
  | 2, _ => rfl
  | 3, _ => rfl
  | 4, _ => rfl
  | 5, _ => rfl
  | 6, _ => rfl
  | n + 7, h => absurd h (by omega)
theorem low_2 {bag : List D} (lt : Lt bag) : lowDs 0 [Hd, .tup bag] = true := by
  simp only [lowDs, lowD, low_lt lt, Bool.and_true, Bool.true_and]
  decide +kernel
theorem low_3 {d : D} {bag : List D} (hd : lowD 0 d = true) (lt : Lt bag) : lowDs 0 [Hd, d, .tup bag] = true := by
  simp only [lowDs, lowD, hd, low_lt lt, Bool.and_true, Bool.true_and]
  decide +kernel
theorem low_4 {d : D} {bag : List D} {i : Int} (hd : lowD 0 d = true) (lt : Lt bag) : lowDs 0 [Hd, d, .tup bag, .int i] = true := by
  simp only [lowDs, lowD, hd, low_lt lt, Bool.and_true, Bool.true_and]
  decide +kernel
theorem cl_ex {bag : List D} {w : Nat} {x : D} {rest : List D} (lt : Lt bag) (hw : w ≤ 12) (hb : bag = List.replicate w A2 ++ x :: rest) (hx : w = 12 ∧ x = A2 ∨ x ∈ bads) : callM ((txt.env 6).f "check_letters") [Hd, .tup bag] [] = .ex 34 [("index", .int (w : Int))] [] := by
  refine call_ex (h' := []) (low_2 lt) ?_ rfl
  show fnD txt 6 21 _ _ = _
  subst hb
  by_cases h6 : w = 12
  · subst h6
    exact cb_raw12 rest x (hx.imp (·.2) id)
  · rcases hx with ⟨h, _⟩ | hx
    · exact absurd h h6
    · exact cb_raw _ w (by omega) x hx
theorem ct_ex {j : Nat} (hj2 : 2 ≤ j) (hj : j < 7) {bag : List D} (lt : Lt bag) : callM ((txt.env 7).f "check_taught") [Hd, ords.getD j .non, .tup bag] [] = .ex 22 [] [] := by
  rw [show (txt.env 7).f "check_taught" = bodyF n_check_taught (b_check_taught (txt.env 6)) from e_check_taught 6]
  refine call_ex (h' := []) (low_3 (low_ord j hj) lt) ?_ rfl
  have c := co_ex j hj2 hj
  generalize ords.getD j .non = od at c ⊢
  simp [bodyF, b_check_taught, startD, n_check_taught, x_V, c]
theorem ct_bad {j : Nat} (hj2 : j < 2) {bag : List D} {w : Nat} {x : D} {rest : List D} (lt : Lt bag) (hw : w ≤ 12) (hb : bag = List.replicate w A2 ++ x :: rest) (hx : w = 12 ∧ x = A2 ∨ x ∈ bads) : callM ((txt.env 7).f "check_taught") [Hd, ords.getD j .non, .tup bag] [] = .ex 34 [("index", .int (w : Int))] [] := by
  rw [show (txt.env 7).f "check_taught" = bodyF n_check_taught (b_check_taught (txt.env 6)) from e_check_taught 6]
  refine call_ex (h' := []) (low_3 (low_ord j (by omega)) lt) ?_ rfl
  have c := co_ok j hj2
  have c2 := cl_ex lt hw hb hx
  generalize ords.getD j .non = od at c ⊢
  simp [bodyF, b_check_taught, startD, n_check_taught, x_V, c, c2]
theorem g_ta : ∀ h (j : Nat) (bag : List D) (ws : List Int), j < 7 → Lt bag → BC bag.length bag ws → ∃ r, callM ((txt.env 8).f "taught") [Hd, ords.getD j .non, .tup bag] h = r ∧
    (if 2 ≤ j then r = .ex 22 [] h else match ws with | w :: _ => r = .ex 34 [("index", .int w)] h | [] => ∃ d, r = .ok d h) := by
  intro h j bag ws hj lt bc
  have lo := low_ord j hj
  refine ⟨_, rfl, ?_⟩
  have ef : (txt.env 8).f "taught" = bodyF n_taught (b_taught (txt.env 7)) := e_taught 7
  by_cases hj2 : 2 ≤ j
  · rw [if_pos hj2, ef]
    refine call_ex (h' := []) (low_3 lo lt) ?_ rfl
    have c := ct_ex hj2 hj lt
    generalize ords.getD j .non = od at c ⊢
    simp [bodyF, b_taught, startD, n_taught, x_V, c]
  · rw [if_neg hj2]
    cases bc with
    | good h1 h2 h3 =>
      have eb : bag = List.replicate bag.length A2 := List.eq_replicate_iff.mpr ⟨rfl, h3⟩
      have c := allTA j (by omega) bag.length (by omega)
      have e0 : callM ((txt.env 8).f "taught") [Hd, ords.getD j .non, .tup bag] [] = TA j bag.length := by
        unfold TA rp
        rw [← eb]
        rfl
      obtain ⟨d, ed⟩ := okR_of c
      exact ⟨d, call_okL (low_3 lo lt) (e0.trans ed)⟩
    | @bad w x rest ws h1 h2 h3 h4 =>
      show callM _ _ h = .ex 34 [("index", .int (w : Int))] h
      rw [ef]
      refine call_ex (h' := []) (low_3 lo lt) ?_ rfl
      have c := ct_bad (j := j) (by omega) lt h2 h3 h4
      generalize ords.getD j .non = od at c ⊢
      simp [bodyF, b_taught, startD, n_taught, x_V, c]
theorem g_se : ∀ h (j : Nat) (bag : List D) (ws : List Int), j < 7 → Lt bag → BC bag.length bag ws → ∃ r, callM ((txt.env 8).f "settled_after") [Hd, ords.getD j .non, .tup bag] h = r ∧
    (if 2 ≤ j then r = .ex 22 [] h else match ws with | w :: _ => r = .ex 34 [("index", .int w)] h | [] => ∃ d, r = .ok d h) := by
  intro h j bag ws hj lt bc
  have lo := low_ord j hj
  refine ⟨_, rfl, ?_⟩
  have ef : (txt.env 8).f "settled_after" = bodyF n_settled_after (b_settled_after (txt.env 7)) := e_settled_after 7
  by_cases hj2 : 2 ≤ j
  · rw [if_pos hj2, ef]
    refine call_ex (h' := []) (low_3 lo lt) ?_ rfl
    have c := ct_ex hj2 hj lt
    generalize ords.getD j .non = od at c ⊢
    simp [bodyF, b_settled_after, startD, n_settled_after, x_V, c]
  · rw [if_neg hj2]
    cases bc with
    | good h1 h2 h3 =>
      have eb : bag = List.replicate bag.length A2 := List.eq_replicate_iff.mpr ⟨rfl, h3⟩
      have c := allSE j (by omega) bag.length (by omega)
      have e0 : callM ((txt.env 8).f "settled_after") [Hd, ords.getD j .non, .tup bag] [] = SE j bag.length := by
        unfold SE rp
        rw [← eb]
        rfl
      obtain ⟨d, ed⟩ := okR_of c
      exact ⟨d, call_okL (low_3 lo lt) (e0.trans ed)⟩
    | @bad w x rest ws h1 h2 h3 h4 =>
      show callM _ _ h = .ex 34 [("index", .int (w : Int))] h
      rw [ef]
      refine call_ex (h' := []) (low_3 lo lt) ?_ rfl
      have c := ct_bad (j := j) (by omega) lt h2 h3 h4
      generalize ords.getD j .non = od at c ⊢
      simp [bodyF, b_settled_after, startD, n_settled_after, x_V, c]
theorem g_tf : ∀ h (j m : Nat) (bag : List D) (ws : List Int), j < 7 → m < 5 → Lt bag → BC bag.length bag ws → ∃ r, callM ((txt.env 8).f "taught_far") [Hd, ords.getD j .non, .tup bag, .int (cnts.getD m 0)] h = r ∧
    (if 2 ≤ j then r = .ex 22 [] h else match ws with | w :: _ => r = .ex 34 [("index", .int w)] h | [] => if 2 ≤ m then r = .ex 29 [] h else ∃ d, r = .ok d h) := by
  intro h j m bag ws hj hm lt bc
  have lo := low_ord j hj
  refine ⟨_, rfl, ?_⟩
  have ef : (txt.env 8).f "taught_far" = bodyF n_taught_far (b_taught_far (txt.env 7)) := e_taught_far 7
  by_cases hj2 : 2 ≤ j
  · rw [if_pos hj2, ef]
    refine call_ex (h' := []) (low_4 lo lt) ?_ rfl
    have c := ct_ex hj2 hj lt
    generalize ords.getD j .non = od at c ⊢
    generalize cnts.getD m 0 = mm
    simp [bodyF, b_taught_far, startD, n_taught_far, x_V, c]
  · rw [if_neg hj2]
    cases bc with
    | good h1 h2 h3 =>
      have eb : bag = List.replicate bag.length A2 := List.eq_replicate_iff.mpr ⟨rfl, h3⟩
      have c := allTF j (by omega) bag.length (by omega) m hm
      unfold chkT at c
      have e0 : callM ((txt.env 8).f "taught_far") [Hd, ords.getD j .non, .tup bag, .int (cnts.getD m 0)] [] = TF j bag.length m := by
        unfold TF rp
        rw [← eb]
        rfl
      by_cases hm2 : 2 ≤ m
      · rw [if_pos hm2] at c
        simp only [if_pos hm2]
        exact call_exL (low_4 lo lt) (e0.trans (isX_of c))
      · rw [if_neg hm2] at c
        simp only [if_neg hm2]
        obtain ⟨d, ed⟩ := okR_of c
        exact ⟨d, call_okL (low_4 lo lt) (e0.trans ed)⟩
    | @bad w x rest ws h1 h2 h3 h4 =>
      show callM _ _ h = .ex 34 [("index", .int (w : Int))] h
      rw [ef]
      refine call_ex (h' := []) (low_4 lo lt) ?_ rfl
      have c := ct_bad (j := j) (by omega) lt h2 h3 h4
      generalize ords.getD j .non = od at c ⊢
      generalize cnts.getD m 0 = mm
      simp [bodyF, b_taught_far, startD, n_taught_far, x_V, c]
theorem g_fk : ∀ h (j : Nat) (v : Int) (bag : List D) (ws : List Int), j < 7 → 0 ≤ v → v < 14 → Lt bag → BC bag.length bag ws → ∃ r, callM ((txt.env 8).f "first_kept") [Hd, ords.getD j .non, .tup bag, .int (v - 1)] h = r ∧
    (if 2 ≤ j then r = .ex 22 [] h else match ws with | w :: _ => r = .ex 34 [("index", .int w)] h | [] => if 0 ≤ v - 1 ∧ v - 1 < (bag.length : Int) then ∃ d, r = .ok d h else r = .ex 29 [] h) := by
  intro h j v bag ws hj v0 v1 lt bc
  have lo := low_ord j hj
  refine ⟨_, rfl, ?_⟩
  have ef : (txt.env 8).f "first_kept" = bodyF n_first_kept (b_first_kept (txt.env 7)) := e_first_kept 7
  by_cases hj2 : 2 ≤ j
  · rw [if_pos hj2, ef]
    refine call_ex (h' := []) (low_4 lo lt) ?_ rfl
    have c := ct_ex hj2 hj lt
    generalize ords.getD j .non = od at c ⊢
    simp [bodyF, b_first_kept, startD, n_first_kept, x_V, c]
  · rw [if_neg hj2]
    cases bc with
    | good h1 h2 h3 =>
      have eb : bag = List.replicate bag.length A2 := List.eq_replicate_iff.mpr ⟨rfl, h3⟩
      obtain ⟨u, rfl⟩ := Int.eq_ofNat_of_zero_le v0
      have c := allFK j (by omega) bag.length (by omega) u (by omega)
      unfold chkF at c
      have e0 : callM ((txt.env 8).f "first_kept") [Hd, ords.getD j .non, .tup bag, .int ((u : Int) - 1)] [] = FK j bag.length u := by
        unfold FK rp
        rw [← eb]
        rfl
      by_cases hu : 1 ≤ u ∧ u < bag.length + 1
      · rw [if_pos hu] at c
        simp only [if_pos (show 0 ≤ (u : Int) - 1 ∧ (u : Int) - 1 < (bag.length : Int) by omega)]
        obtain ⟨d, ed⟩ := okR_of c
        exact ⟨d, call_okL (low_4 lo lt) (e0.trans ed)⟩
      · rw [if_neg hu] at c
        simp only [if_neg (show ¬ (0 ≤ (u : Int) - 1 ∧ (u : Int) - 1 < (bag.length : Int)) by omega)]
        exact call_exL (low_4 lo lt) (e0.trans (isX_of c))
    | @bad w x rest ws h1 h2 h3 h4 =>
      show callM _ _ h = .ex 34 [("index", .int (w : Int))] h
      rw [ef]
      refine call_ex (h' := []) (low_4 lo lt) ?_ rfl
      have c := ct_bad (j := j) (by omega) lt h2 h3 h4
      generalize ords.getD j .non = od at c ⊢
      simp [bodyF, b_first_kept, startD, n_first_kept, x_V, c]
theorem g_env : Env35 (txt.env 8) where
  tk := g_taken 7
  house := fun h _ => call_okL (by decide +kernel) (by kernel_rfl)
  t22 := fun h => rfl
  t34 := fun h i => rfl
  t29 := fun h => rfl
  ta := g_ta
  se := g_se
  tf := g_tf
  fk := g_fk
theorem law_ok (ns : List Int) (h : ns.length ≤ 63) : ∃ h', fnD txt 9 lawI [.scr (ns.map D.int)] [] = .ok (.bl true) h' := by
  rw [show fnD txt 9 lawI = _ from e_law 8]
  exact law35 g_env
end K35
namespace K35
open PySem PySem.Spec PyProof.Rows L2 Lo
abbrev R : PySem.W.OpenRow := PySem.W.OpenLaw.row PySem.Challenge.rw_lostplates_k35_learning_rejected
abbrev hk : PySem.W.Hook := hookT 6 txt
def ob (s : PySem.W.SharedT) : AlU := obsTG 6 txt (HandSHeadRun.getT s)
theorem ob_eq (s : PySem.W.SharedT) : ob s = hk.obs s.abs := obsTG_eq (HandSHeadRun.getT_eq s)
def loose : List Str := looseA.flatten
theorem run (w : World) : HandSHeadRun.RunEq R (PySem.W.view R.prog [lawAt]) hk ob 20000 loose w := by
  intro os
  kernel_rfl
end K35
open PySem PySem.W PySem.Calls PyProof.Rows
theorem PySem.Challenge.cw_lostplates_k35_learning_rejected_holds : PySem.Challenge.rw_lostplates_k35_learning_rejected.Holds := by
  w_on; o_law
  refine HandSHeadRun.head_any (r := OpenLaw.row PySem.Challenge.rw_lostplates_k35_learning_rejected) (q := view (OpenLaw.row PySem.Challenge.rw_lostplates_k35_learning_rejected).prog [K35.lawAt]) (H := K35.hk) (ob := K35.ob) (M := 20000) (loose := K35.loose) (d := HandSHeadRun.topDef (OpenLaw.row PySem.Challenge.rw_lostplates_k35_learning_rejected).prog K35.lawAt) (kwd := []) K35.ob_eq
    (by kernel_rfl) (fun s => by kernel_rfl) K35.run (by kernel_rfl) (by kernel_rfl) (by kernel_rfl) (by rfl) (by first | assumption | decide +kernel) (by decide +kernel) ⟨rfl, rfl, rfl, rfl, rfl, by decide +kernel⟩ ?hw ?hc
  case hw => w_witness2
  case hc =>
    refine LamX.walk_ofTsE (l := PySem.Challenge.rw_lostplates_k35_learning_rejected) (n := 63) (k := 5 * 9) (x := "_law_script") (CX := fun w => L2.CX (PySem.Challenge.rw_lostplates_k35_learning_rejected).prog w) rfl (by decide) (by kernel_rfl) ⟨rfl, by decide, by decide⟩ ?F (fun _ _ _ _ _ z => Lo.cx_no z)
    intro w mg fa h Y G hmg0
    obtain ⟨K, KX, c, te⟩ := Y
    have hmg : mg ("law" : PySem.Str) = some (.ref fa) := by
      have e : (HandSHeadRun.topDef (OpenLaw.row PySem.Challenge.rw_lostplates_k35_learning_rejected).prog K35.lawAt).name = ("law" : PySem.Str) := by kernel_rfl
      rw [← e]
      exact hmg0
    exact ⟨K, KX, Lo.law_facts (t := K35.txt) (i := K35.lawI) (k := 9) (x := "_law_script") KX G c te K35.bind K35.scs K35.xia K35.tds rfl rfl rfl (by decide +kernel) hmg K35.law_ok⟩
