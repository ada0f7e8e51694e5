import PyProof.Rows.All
import Wide.All
import OpenK.AllK
import Wide.FinOn
import HandS.ForMost
import HandS.ForExc
import HandS.Walk
import HandS.TupAny
import HandS.Deep
import HandS.IsInst
import HandS.Style
import HandS.Wide
import KE.DataCmp
import KE.SortData
import HandS.CallSlots
import HandS.More
import HandS.SortKw
import KE.DataMinKey
import HandS.Ends
import HandS.EndBits
import HandS.Defaults
import HandS.Head0
import HandS.Head1
import HandS.Head2
import HandS.HeadEnd
import HandS.HeadHook1
import HandS.HeadHook2
import HandS.HeadHook3
import HandS.HeadHook4
import KE.KStateDown
import KE.IntBitsLaws
import HandS.Zip
import PyProof.TupleOfSeq
import KE.GoesEnum
import KE.GoesMore
import KE.KDictZip
import KE.KDictList
import PySem.Challenge.RW_fleethide_k07_answers_by_walk
set_option Elab.async false
set_option linter.all false
set_option maxRecDepth 100000
namespace Ev
open PySem PySem.Spec L2
open PyProof.Rows hiding St

/-! ### frozen parts -/
/-- what stands frozen in Hf stands in H (a dict may be locked) -/
def Ext (Hf H : Hp) : Prop := ∀ a o, Hf a = some o → H a = some o ∨ (((∃ kvs, o = .dK kvs) ∨ ∃ kvs, o = .dT kvs) ∧ ∃ ob, H a = some (.frz ob o))
theorem Ext.of {Hf H : Hp} (s : Same Hf H) : Ext Hf H := fun a o h => .inl (s a o h)
theorem Ext.refl (H : Hp) : Ext H H := fun _ _ h => .inl h
theorem Same.ext {A B C : Hp} (s : Same A B) (e : Ext B C) : Ext A C := fun a o h => e a o (s a o h)
theorem Ext.none {Hf H : Hp} (e : Ext Hf H) {a : Addr} (h : H a = none) : Hf a = none := by
  cases q : Hf a with
  | none => rfl
  | some o =>
    rcases e a o q with z | ⟨_, ob, z⟩ <;> rw [h] at z <;> cases z
theorem Ext.rd {Hf H : Hp} (e : Ext Hf H) {a : Addr} {u : HO} (h : Rd Hf a u) : Rd H a u := by
  rcases h with h | ⟨o, h⟩
  · rcases e a _ h with z | ⟨_, ob, z⟩
    · exact .inl z
    · exact .inr ⟨ob, z⟩
  · rcases e a _ h with z | ⟨(⟨kvs, q⟩ | ⟨kvs, q⟩), ob, z⟩
    · exact .inr ⟨o, z⟩
    · cases q
    · cases q
theorem Ext.tup {Hf H : Hp} (e : Ext Hf H) {a : Addr} {xs : List V} (h : Hf a = some (.tup xs)) : H a = some (.tup xs) := by
  rcases e a _ h with z | ⟨(⟨kvs, q⟩ | ⟨kvs, q⟩), ob, z⟩
  · exact z
  · cases q
  · cases q
theorem Ext.sqT {K : PySem.W.Frag} {Hf H : Hp} (e : Ext Hf H) {a : Addr} {xs : List V} (h : SqT K Hf a xs) : SqT K H a xs := by
  rcases h with h | h
  · exact .inl (e.rd h)
  · exact .inr h

theorem Ext.sqL {K : PySem.W.Frag} {Hf H : Hp} (e : Ext Hf H) {a : Addr} {xs : List V} (h : SqL K Hf a xs) : SqL K H a xs := by
  rcases h with h | h
  · exact .inl (e.rd h)
  · exact .inr h

def kD : Key → PyData
  | .inl i => .int i
  | .inr x => .str x
def ktD (ks : List Key) : PyData := .tuple (ks.map kD)

mutual
/-- v is the datum d, as it is read in H -/
inductive Rp (K : PySem.W.Frag) (H : Hp) : V → PyData → Prop
  | non : Rp K H .non .none
  | bl (b : Bool) : Rp K H (.bl b) (.bool b)
  | int (i : Int) : Rp K H (.int i) (.int i)
  | str (x : Str) : Rp K H (.str x) (.str x)
  | lst {a : Addr} {xs : List V} {ds : List PyData} : SqL K H a xs → RpAll K H xs ds → Rp K H (.ref a) (.list ds)
  | tup {a : Addr} {xs : List V} {ds : List PyData} : H a = some (.tup xs) → RpAll K H xs ds → Rp K H (.ref a) (.tuple ds)
  | tupK {a : Addr} {xs : List Str} : SqT K H a (xs.map V.str) → xs ≠ [] → Rp K H (.ref a) (.tuple (xs.map PyData.str))
  | dk {a : Addr} {kvs : List (Key × V)} {ds : List PyData} : Rd H a (.dK kvs) → RpAll K H (kvs.map (·.2)) ds → Rp K H (.ref a) (.dict ((kvs.map fun p => kD p.1).zip ds))
  | dt {a : Addr} {kvs : List (List Key × V)} {ds : List PyData} : Rd H a (.dT kvs) → RpAll K H (kvs.map (·.2)) ds → Rp K H (.ref a) (.dict ((.none, .none) :: (kvs.map fun p => ktD p.1).zip ds))
inductive RpAll (K : PySem.W.Frag) (H : Hp) : List V → List PyData → Prop
  | nil : RpAll K H [] []
  | cons {v : V} {vs : List V} {d : PyData} {ds : List PyData} : Rp K H v d → RpAll K H vs ds → RpAll K H (v :: vs) (d :: ds)
end

section
variable {K : PySem.W.Frag} {H H' : Hp}
mutual
theorem Rp.mono (e : Ext H H') : ∀ {v : V} {d : PyData}, Rp K H v d → Rp K H' v d
  | _, _, .non => .non
  | _, _, .bl b => .bl b
  | _, _, .int i => .int i
  | _, _, .str x => .str x
  | _, _, .lst h r => .lst (e.sqL h) (RpAll.mono e r)
  | _, _, .tup h r => .tup (e.tup h) (RpAll.mono e r)
  | _, _, .tupK h n => .tupK (e.sqT h) n
  | _, _, .dk h r => .dk (e.rd h) (RpAll.mono e r)
  | _, _, .dt h r => .dt (e.rd h) (RpAll.mono e r)
theorem RpAll.mono (e : Ext H H') : ∀ {vs : List V} {ds : List PyData}, RpAll K H vs ds → RpAll K H' vs ds
  | _, _, .nil => .nil
  | _, _, .cons h r => .cons (Rp.mono e h) (RpAll.mono e r)
end
theorem RpAll.len : ∀ {vs : List V} {ds : List PyData}, RpAll K H vs ds → vs.length = ds.length
  | _, _, .nil => rfl
  | _, _, .cons _ r => congrArg (· + 1) r.len
theorem RpAll.get : ∀ {vs : List V} {ds : List PyData} {i : Nat} {d : PyData}, RpAll K H vs ds → ds[i]? = some d → ∃ v, vs[i]? = some v ∧ Rp K H v d
  | _, _, _, _, .nil, e => by simp at e
  | _, _, 0, _, .cons h _, e => by simp at e; subst e; exact ⟨_, rfl, h⟩
  | _, _, i + 1, d, .cons _ r, e => by
    obtain ⟨v, h1, h2⟩ := RpAll.get (i := i) (d := d) r (by simpa using e)
    exact ⟨v, by simpa using h1, h2⟩
theorem RpAll.get' : ∀ {vs : List V} {ds : List PyData} {i : Nat} {v : V}, RpAll K H vs ds → vs[i]? = some v → ∃ d, ds[i]? = some d ∧ Rp K H v d
  | _, _, _, _, .nil, e => by simp at e
  | _, _, 0, _, .cons h _, e => by simp at e; subst e; exact ⟨_, rfl, h⟩
  | _, _, i + 1, d, .cons _ r, e => by
    obtain ⟨v, h1, h2⟩ := RpAll.get' (i := i) r (by simpa using e)
    exact ⟨v, by simpa using h1, h2⟩
theorem RpAll.append : ∀ {vs ws : List V} {ds es : List PyData}, RpAll K H vs ds → RpAll K H ws es → RpAll K H (vs ++ ws) (ds ++ es)
  | _, _, _, _, .nil, s => s
  | _, _, _, _, .cons h r, s => .cons h (r.append s)
theorem RpAll.take : ∀ {vs : List V} {ds : List PyData} (n : Nat), RpAll K H vs ds → RpAll K H (vs.take n) (ds.take n)
  | _, _, 0, _ => .nil
  | _, _, _ + 1, .nil => .nil
  | _, _, n + 1, .cons h r => .cons h (r.take n)
theorem RpAll.drop : ∀ {vs : List V} {ds : List PyData} (n : Nat), RpAll K H vs ds → RpAll K H (vs.drop n) (ds.drop n)
  | _, _, 0, r => r
  | _, _, _ + 1, .nil => .nil
  | _, _, n + 1, .cons _ r => r.drop n
theorem RpAll.snoc {vs : List V} {ds : List PyData} {v : V} {d : PyData} (r : RpAll K H vs ds) (h : Rp K H v d) : RpAll K H (vs ++ [v]) (ds ++ [d]) := r.append (.cons h .nil)
theorem RpAll.reverse : ∀ {vs : List V} {ds : List PyData}, RpAll K H vs ds → RpAll K H vs.reverse ds.reverse
  | _, _, .nil => .nil
  | _, _, .cons h r => by rw [List.reverse_cons, List.reverse_cons]; exact r.reverse.snoc h
theorem RpAll.strs : ∀ (xs : List Str), RpAll K H (xs.map V.str) (xs.map PyData.str)
  | [] => .nil
  | x :: xs => .cons (.str x) (RpAll.strs xs)
theorem RpAll.ints : ∀ (xs : List Int), RpAll K H (xs.map V.int) (xs.map PyData.int)
  | [] => .nil
  | x :: xs => .cons (.int x) (RpAll.ints xs)
/-- a tuple as it is read -/
theorem Rp.sqT {v : V} {ds : List PyData} (h : Rp K H v (.tuple ds)) : ∃ a xs, v = .ref a ∧ SqT K H a xs ∧ RpAll K H xs ds := by
  cases h with
  | tup h r => exact ⟨_, _, rfl, SqT.of h, r⟩
  | tupK h n => exact ⟨_, _, rfl, h, RpAll.strs _⟩
theorem Rp.sqL {v : V} {ds : List PyData} (h : Rp K H v (.list ds)) : ∃ a xs, v = .ref a ∧ SqL K H a xs ∧ RpAll K H xs ds := by
  cases h with
  | lst h r => exact ⟨_, _, rfl, h, r⟩
mutual
/-- as HandS' own reading of data -/
theorem Rp.dp : ∀ {v : V} {d : PyData}, Rp K H v d → d.canLay0 = true → Dp K H v d
  | _, _, .non, _ => .non
  | _, _, .bl b, _ => .bl b
  | _, _, .int i, _ => .int i
  | _, _, .str x, _ => .str x
  | _, _, .lst h r, c => .lst h (RpAll.dp r (by simpa [PyData.canLay0] using c))
  | _, _, .tup h r, c => .tup (SqT.of h) (RpAll.dp r (by simpa [PyData.canLay0] using c))
  | _, _, .tupK (xs := xs) h n, c => .tup h (RpAll.dp (RpAll.strs xs) (by simpa [PyData.canLay0] using c))
  | _, _, .dk h r, c => by simp [PyData.canLay0] at c
  | _, _, .dt h r, c => by simp [PyData.canLay0] at c
theorem RpAll.dp : ∀ {vs : List V} {ds : List PyData}, RpAll K H vs ds → PyData.canLayAll0 ds = true → DpAll K H vs ds
  | _, _, .nil, _ => .nil
  | _, _, .cons h r, c => by
    rw [PyData.canLayAll0, Bool.and_eq_true] at c
    exact .cons (Rp.dp h c.1) (RpAll.dp r c.2)
end
end

/-! ### what is owned -/
inductive OV where
  | sh (d : PyData)
  | lst (xs : List OV)
  | dk (kvs : List (Key × OV))
  | dt (kvs : List (List Key × OV))
instance : Inhabited OV := ⟨.sh .none⟩

mutual
/-- the datum that an owned thing is, when it is frozen -/
def fz : OV → PyData
  | .sh d => d
  | .lst xs => .list (fzs xs)
  | .dk kvs => .dict (fzk kvs)
  | .dt kvs => .dict ((.none, .none) :: fzt kvs)
def fzs : List OV → List PyData
  | [] => []
  | x :: xs => fz x :: fzs xs
def fzk : List (Key × OV) → List (PyData × PyData)
  | [] => []
  | (k, x) :: xs => (kD k, fz x) :: fzk xs
def fzt : List (List Key × OV) → List (PyData × PyData)
  | [] => []
  | (k, x) :: xs => (ktD k, fz x) :: fzt xs
end
theorem fzs_eq : ∀ xs, fzs xs = xs.map fz
  | [] => by simp [fzs]
  | x :: xs => by simp [fzs, fzs_eq xs]
theorem fzk_eq : ∀ xs, fzk xs = xs.map fun p => (kD p.1, fz p.2)
  | [] => by simp [fzk]
  | (k, x) :: xs => by simp [fzk, fzk_eq xs]
theorem fzt_eq : ∀ xs, fzt xs = xs.map fun p => (ktD p.1, fz p.2)
  | [] => by simp [fzt]
  | (k, x) :: xs => by simp [fzt, fzt_eq xs]

abbrev Bs := List (Addr × HO)
mutual
/-- v is the owned thing o; bs: the objects that it owns, as they stand -/
inductive Own (K : PySem.W.Frag) (Hf : Hp) : V → OV → Bs → Prop
  | sh {v : V} {d : PyData} : Rp K Hf v d → Own K Hf v (.sh d) []
  | lst {a : Addr} {vs : List V} {os : List OV} {bs : Bs} : OwnL K Hf vs os bs → Own K Hf (.ref a) (.lst os) ((a, .lst vs) :: bs)
  | dk {a : Addr} {ks : List Key} {vs : List V} {os : List OV} {bs : Bs} : ks.length = vs.length → ks.Nodup → OwnL K Hf vs os bs → Own K Hf (.ref a) (.dk (ks.zip os)) ((a, .dK (ks.zip vs)) :: bs)
  | dt {a : Addr} {ks : List (List Key)} {vs : List V} {os : List OV} {bs : Bs} : ks.length = vs.length → ks.Nodup → OwnL K Hf vs os bs → Own K Hf (.ref a) (.dt (ks.zip os)) ((a, .dT (ks.zip vs)) :: bs)
inductive OwnL (K : PySem.W.Frag) (Hf : Hp) : List V → List OV → Bs → Prop
  | nil : OwnL K Hf [] [] []
  | cons {v : V} {vs : List V} {o : OV} {os : List OV} {b1 b2 : Bs} : Own K Hf v o b1 → OwnL K Hf vs os b2 → OwnL K Hf (v :: vs) (o :: os) (b1 ++ b2)
end
section
variable {K : PySem.W.Frag} {H H' : Hp}
mutual
theorem Own.mono (e : Ext H H') : ∀ {v : V} {o : OV} {bs : Bs}, Own K H v o bs → Own K H' v o bs
  | _, _, _, .sh h => .sh (h.mono e)
  | _, _, _, .lst h => .lst (OwnL.mono e h)
  | _, _, _, .dk l n h => .dk l n (OwnL.mono e h)
  | _, _, _, .dt l n h => .dt l n (OwnL.mono e h)
theorem OwnL.mono (e : Ext H H') : ∀ {vs : List V} {os : List OV} {bs : Bs}, OwnL K H vs os bs → OwnL K H' vs os bs
  | _, _, _, .nil => .nil
  | _, _, _, .cons h r => .cons (Own.mono e h) (OwnL.mono e r)
end
theorem OwnL.len : ∀ {vs : List V} {os : List OV} {bs : Bs}, OwnL K H vs os bs → vs.length = os.length
  | _, _, _, .nil => rfl
  | _, _, _, .cons _ r => congrArg (· + 1) r.len
theorem OwnL.append : ∀ {vs ws : List V} {os ps : List OV} {bs cs : Bs}, OwnL K H vs os bs → OwnL K H ws ps cs → OwnL K H (vs ++ ws) (os ++ ps) (bs ++ cs)
  | _, _, _, _, _, _, .nil, s => s
  | _, _, _, _, _, _, .cons h r, s => by
    rw [List.append_assoc]
    exact .cons h (r.append s)
/-- shared items own nothing -/
theorem OwnL.of_rp : ∀ {vs : List V} {ds : List PyData}, RpAll K H vs ds → OwnL K H vs (ds.map .sh) []
  | _, _, .nil => .nil
  | _, _, .cons h r => .cons (b1 := []) (b2 := []) (.sh h) (OwnL.of_rp r)
theorem OwnL.to_rp : ∀ {vs : List V} {ds : List PyData} {bs : Bs}, OwnL K H vs (ds.map .sh) bs → RpAll K H vs ds ∧ bs = []
  | _, [], _, .nil => ⟨.nil, rfl⟩
  | _, d :: ds, _, .cons (.sh h) r => by
    obtain ⟨h2, e⟩ := OwnL.to_rp r
    exact ⟨.cons h h2, by rw [e]; rfl⟩
/-- split at a place -/
theorem OwnL.split : ∀ {vs : List V} {os : List OV} {bs : Bs} {i : Nat} {o : OV}, OwnL K H vs os bs → os[i]? = some o →
    ∃ v b0 b1 b2, vs[i]? = some v ∧ bs = b0 ++ b1 ++ b2 ∧ Own K H v o b1 ∧ (∀ o' b' v', Own K H v' o' b' → OwnL K H (vs.set i v') (os.set i o') (b0 ++ b' ++ b2))
  | _, _, _, _, _, .nil, e => by simp at e
  | _, _, _, 0, _, .cons (b1 := b1) (b2 := b2) h r, e => by
    simp at e; subst e
    exact ⟨_, [], b1, b2, rfl, by simp, h, fun o' b' v' q => by simpa using OwnL.cons q r⟩
  | _, _, _, i + 1, o, .cons (b1 := c1) (b2 := c2) h r, e => by
    obtain ⟨v, b0, b1, b2, e1, e2, q, f⟩ := OwnL.split (i := i) (o := o) r (by simpa using e)
    refine ⟨v, c1 ++ b0, b1, b2, by simpa using e1, by rw [e2]; simp, q, fun o' b' v' q' => ?_⟩
    have := OwnL.cons h (f o' b' v' q')
    simpa using this
end

/-! ### the items that a state owns -/
abbrev Its := List (V × OV)
inductive OwnI (K : PySem.W.Frag) (Hf : Hp) : Its → Bs → Prop
  | nil : OwnI K Hf [] []
  | cons {v : V} {o : OV} {its : Its} {b1 b2 : Bs} : Own K Hf v o b1 → OwnI K Hf its b2 → OwnI K Hf ((v, o) :: its) (b1 ++ b2)
section
variable {K : PySem.W.Frag} {H H' : Hp}
theorem OwnI.mono (e : Ext H H') : ∀ {its : Its} {bs : Bs}, OwnI K H its bs → OwnI K H' its bs
  | _, _, .nil => .nil
  | _, _, .cons h r => .cons (h.mono e) (r.mono e)
theorem OwnI.append : ∀ {A B : Its} {bs cs : Bs}, OwnI K H A bs → OwnI K H B cs → OwnI K H (A ++ B) (bs ++ cs)
  | _, _, _, _, .nil, s => s
  | _, _, _, _, .cons h r, s => by
    rw [List.append_assoc]
    exact .cons h (r.append s)
theorem OwnI.split : ∀ {A B : Its} {bs : Bs}, OwnI K H (A ++ B) bs → ∃ b1 b2, bs = b1 ++ b2 ∧ OwnI K H A b1 ∧ OwnI K H B b2
  | [], _, bs, h => ⟨[], bs, rfl, .nil, h⟩
  | (v, o) :: A, B, _, .cons (b1 := c1) h r => by
    obtain ⟨b1, b2, e, h1, h2⟩ := OwnI.split (A := A) (B := B) r
    exact ⟨c1 ++ b1, b2, by rw [e, List.append_assoc], .cons h h1, h2⟩
theorem OwnI.perm {A B : Its} (p : A.Perm B) : ∀ {bs : Bs}, OwnI K H A bs → ∃ cs, bs.Perm cs ∧ OwnI K H B cs := by
  induction p with
  | nil => exact fun h => ⟨_, .refl _, h⟩
  | cons x _ ih =>
    intro bs h
    cases h with
    | cons h r =>
      obtain ⟨cs, q, r'⟩ := ih r
      exact ⟨_, q.append_left _, .cons h r'⟩
  | swap x y l =>
    intro bs h
    cases h with
    | cons h r =>
      cases r with
      | cons h' r' =>
        refine ⟨_, ?_, .cons h' (.cons h r')⟩
        rw [← List.append_assoc, ← List.append_assoc]
        exact (List.perm_append_comm).append_right _
  | trans _ _ ih1 ih2 =>
    intro bs h
    obtain ⟨cs, q, r⟩ := ih1 h
    obtain ⟨ds, q', r'⟩ := ih2 r
    exact ⟨ds, q.trans q', r'⟩
/-- the items of a list, as items of a state -/
theorem OwnL.its : ∀ {vs : List V} {os : List OV} {bs : Bs}, OwnL K H vs os bs → OwnI K H (vs.zip os) bs
  | _, _, _, .nil => .nil
  | _, _, _, .cons h r => .cons h r.its
theorem OwnI.lst : ∀ {vs : List V} {os : List OV} {bs : Bs}, vs.length = os.length → OwnI K H (vs.zip os) bs → OwnL K H vs os bs
  | [], [], _, _, .nil => .nil
  | _ :: vs, _ :: os, _, l, .cons h r => .cons h (OwnI.lst (by simpa using l) r)
end

/-- F: the caller's own objects, as they stand -/
structure SX (K : PySem.W.Frag) (Hf : Hp) (its : Its) (F : Bs) (H : Hp) : Prop where
  ex : ∃ bs, OwnI K Hf its bs ∧ ((bs ++ F).map (·.1)).Nodup ∧ ∀ p ∈ bs ++ F, H p.1 = some p.2 ∧ Hf p.1 = none
  sub : Ext Hf H
section
variable {K : PySem.W.Frag} {Hf Hf' H H' : Hp} {its A B : Its} {F bs : Bs} {v w : V} {o : OV} {d : PyData} {p : Addr}
theorem nodup_perm {l m : Bs} (q : l.Perm m) (h : (l.map (·.1)).Nodup) : (m.map (·.1)).Nodup := (q.map _).nodup_iff.mp h
theorem SX.perm (s : SX K Hf A F H) (q : A.Perm B) : SX K Hf B F H := by
  obtain ⟨⟨bs, h, n, a⟩, e⟩ := s
  obtain ⟨cs, qc, h'⟩ := h.perm q
  exact ⟨⟨cs, h', nodup_perm (qc.append_right F) n, fun p hp => a p ((qc.append_right F).mem_iff.mpr hp)⟩, e⟩
/-- a part is let go -/
theorem SX.tail (s : SX K Hf (A ++ B) F H) : SX K Hf B F H := by
  obtain ⟨⟨bs, h, n, a⟩, e⟩ := s
  obtain ⟨b1, b2, rfl, h1, h2⟩ := h.split
  refine ⟨⟨b2, h2, ?_, fun p hp => a p ?_⟩, e⟩
  · rw [List.append_assoc, List.map_append] at n
    exact (List.nodup_append.mp n).2.1
  · rw [List.append_assoc]
    exact List.mem_append_right _ hp
theorem SX.drop (s : SX K Hf ((v, o) :: its) F H) : SX K Hf its F H := SX.tail (A := [(v, o)]) s
theorem SX.head (s : SX K Hf (A ++ B) F H) : SX K Hf A F H := SX.tail (A := B) (B := A) (s.perm List.perm_append_comm)
/-- a part is framed -/
theorem SX.frame (s : SX K Hf (A ++ B) F H) : ∃ bs, OwnI K Hf B bs ∧ SX K Hf A (bs ++ F) H := by
  obtain ⟨⟨bs, h, n, a⟩, e⟩ := s
  obtain ⟨b1, b2, rfl, h1, h2⟩ := h.split
  rw [List.append_assoc] at n a
  exact ⟨b2, h2, ⟨b1, h1, n, a⟩, e⟩
theorem SX.unframe (s : SX K Hf A (bs ++ F) H) (h : OwnI K Hf B bs) : SX K Hf (A ++ B) F H := by
  obtain ⟨⟨b1, h1, n, a⟩, e⟩ := s
  rw [← List.append_assoc] at n a
  exact ⟨⟨b1 ++ bs, h1.append h, n, a⟩, e⟩
theorem SX.nil (e : Ext Hf H) : SX K Hf [] [] H := ⟨⟨[], .nil, by simp, fun p hp => by cases hp⟩, e⟩
/-- a datum that stands frozen -/
theorem SX.add (s : SX K Hf its F H) (r : Rp K Hf v d) : SX K Hf ((v, .sh d) :: its) F H := by
  obtain ⟨⟨bs, h, n, a⟩, e⟩ := s
  exact ⟨⟨[] ++ bs, .cons (.sh r) h, by simpa using n, fun p hp => a p (by simpa using hp)⟩, e⟩
theorem SX.rp (s : SX K Hf ((v, .sh d) :: its) F H) : Rp K Hf v d := by
  obtain ⟨⟨bs, h, n, a⟩, e⟩ := s
  cases h with
  | cons h _ => cases h; assumption
theorem SX.rpH (s : SX K Hf ((v, .sh d) :: its) F H) : Rp K H v d := s.rp.mono s.sub
theorem SX.no (s : SX K Hf its F H) (h : H p = none) : Hf p = none := s.sub.none h
/-- the frozen part grows (nothing else changed) -/
theorem SX.grow (s : SX K Hf its F H) (e : Same Hf Hf') (e' : Ext Hf' H) (k : ∀ a o, H a = some o → Hf a = none → Hf' a = none) : SX K Hf' its F H := by
  obtain ⟨⟨bs, h, n, a⟩, _⟩ := s
  exact ⟨⟨bs, h.mono (.of e), n, fun p hp => ⟨(a p hp).1, k _ _ (a p hp).1 (a p hp).2⟩⟩, e'⟩
/-- a new object, frozen -/
theorem SX.new {u : HO} (s : SX K Hf its F H) (hp : H p = Option.none) : SX K (upd Hf p u) its F (upd H p u) ∧ Same Hf (upd Hf p u) := by
  obtain ⟨⟨bs, h, n, a⟩, e⟩ := s
  have sm : Same Hf (upd Hf p u) := fun b x q => by rw [upd_ne (ne_of_none q (e.none hp))]; exact q
  refine ⟨⟨⟨bs, h.mono (.of sm), n, fun q hq => ?_⟩, fun b x q => ?_⟩, sm⟩
  · have hne : q.1 ≠ p := ne_of_none (a q hq).1 hp
    rw [upd_ne hne, upd_ne hne]
    exact a q hq
  · by_cases hb : b = p
    · subst hb; rw [upd_same] at q ⊢; exact .inl q
    · rw [upd_ne hb] at q
      rw [upd_ne hb]
      exact e b x q
/-- a new object, owned: C are the items that it takes in -/
theorem SX.newOwn {u : HO} {C : Its} {o : OV} (s : SX K Hf (C ++ its) F H) (hp : H p = Option.none) (mk : ∀ bs, OwnI K Hf C bs → Own K Hf (.ref p) o ((p, u) :: bs)) : SX K Hf ((.ref p, o) :: its) F (upd H p u) := by
  obtain ⟨⟨bs, h, n, a⟩, e⟩ := s
  obtain ⟨b1, b2, rfl, h1, h2⟩ := h.split
  have ne : ∀ q ∈ (b1 ++ b2) ++ F, q.1 ≠ p := fun q hq => ne_of_none (a q hq).1 hp
  refine ⟨⟨((p, u) :: b1) ++ b2, .cons (mk b1 h1) h2, ?_, fun q hq => ?_⟩, fun b x q => ?_⟩
  · show (p :: ((b1 ++ b2 ++ F).map (·.1))).Nodup
    refine List.nodup_cons.mpr ⟨fun hm => ?_, n⟩
    obtain ⟨q, hq, e⟩ := List.mem_map.mp hm
    exact ne q hq e
  · rcases List.mem_cons.mp hq with rfl | hq
    · exact ⟨upd_same, e.none hp⟩
    · rw [upd_ne (ne q hq)]; exact a q hq
  · have hb : b ≠ p := ne_of_none q (e.none hp)
    rw [upd_ne hb]; exact e b x q
/-- an owned object is changed: C are the items that it takes in, dr what it lets go -/
theorem SX.chg {C : Its} {a : Addr} {o' : OV} (R : HO → HO → Prop) (s : SX K Hf ((.ref a, o) :: (C ++ its)) F H)
    (ho : ∀ bs, Own K Hf (.ref a) o bs → ∃ u bs0, bs = (a, u) :: bs0 ∧ ∀ c1, OwnI K Hf C c1 → ∃ u' cs dr, (cs ++ dr).Perm (bs0 ++ c1) ∧ Own K Hf (.ref a) o' ((a, u') :: cs) ∧ R u u') :
    ∃ u u', H a = some u ∧ R u u' ∧ SX K Hf ((.ref a, o') :: its) F (upd H a u') := by
  obtain ⟨⟨bs, h, n, al⟩, e⟩ := s
  cases h with
  | cons h r =>
    obtain ⟨u, bs0, e1, hu⟩ := ho _ h
    subst e1
    obtain ⟨c1, c2, rfl, h1, h2⟩ := r.split
    obtain ⟨u', cs, dr, q, hn, hR⟩ := hu c1 h1
    have P : ((((a, u') :: (cs ++ dr)) ++ c2 ++ F).map (·.1)).Perm ((((a, u) :: bs0) ++ (c1 ++ c2) ++ F).map (·.1)) := by
      have q2 : ((cs ++ dr) ++ c2 ++ F).Perm (bs0 ++ (c1 ++ c2) ++ F) := by
        have := (q.append_right c2).append_right F
        simpa [List.append_assoc] using this
      simpa using List.Perm.cons a (q2.map (·.1))
    have nd1 : ((((a, u') :: (cs ++ dr)) ++ c2 ++ F).map (·.1)).Nodup := P.nodup_iff.mpr n
    have sl : (((a, u') :: cs) ++ c2 ++ F).Sublist (((a, u') :: (cs ++ dr)) ++ c2 ++ F) := by
      refine List.Sublist.append_right (List.Sublist.append_right ?_ _) _
      exact List.Sublist.cons_cons _ (List.sublist_append_left _ _)
    have nd : ((((a, u') :: cs) ++ c2 ++ F).map (·.1)).Nodup := nd1.sublist (sl.map _)
    have h0 := al (a, u) (by simp)
    refine ⟨u, u', h0.1, hR, ⟨((a, u') :: cs) ++ c2, .cons hn h2, nd, fun z hz => ?_⟩, fun b x z => ?_⟩
    · rcases List.mem_cons.mp hz with rfl | hz
      · exact ⟨upd_same, h0.2⟩
      · have ne : z.1 ≠ a := fun e => by
          have : a ∉ (cs ++ c2 ++ F).map (·.1) := (List.nodup_cons.mp nd).1
          exact this (List.mem_map.mpr ⟨z, hz, e⟩)
        rw [upd_ne ne]
        refine al z ?_
        have hz' : z ∈ cs ++ (c2 ++ F) := by rw [← List.append_assoc]; exact hz
        rcases List.mem_append.mp hz' with hz' | hz'
        · have := q.mem_iff.mp (List.mem_append_left dr hz')
          rcases List.mem_append.mp this with m | m <;> simp [m]
        · rcases List.mem_append.mp hz' with m | m <;> simp [m]
    · have ne : b ≠ a := fun z' => by
        have := h0.2
        rw [← z', z] at this; cases this
      rw [upd_ne ne]; exact e b x z
/-- append -/
theorem SX.push {a : Addr} {os : List OV} (s : SX K Hf ((.ref a, .lst os) :: (v, o) :: its) F H) : ∃ vs, vs.length = os.length ∧ H a = some (.lst vs) ∧ SX K Hf ((.ref a, .lst (os ++ [o])) :: its) F (upd H a (.lst (vs ++ [v]))) := by
  obtain ⟨u, u', h1, ⟨vs, rfl, rfl, hl⟩, h2⟩ := SX.chg (C := [(v, o)]) (o' := .lst (os ++ [o])) (fun u u' => ∃ vs, u = .lst vs ∧ u' = .lst (vs ++ [v]) ∧ vs.length = os.length) s (fun bs q => by
    cases q with
    | @lst _ vs _ b0 q =>
      refine ⟨_, _, rfl, fun c1 hc => ?_⟩
      cases hc with
      | cons hc hr =>
        cases hr
        exact ⟨.lst (vs ++ [v]), _, [], by rw [List.append_nil (_ ++ (_ ++ []))], .lst (q.append (.cons hc .nil)), vs, rfl, rfl, q.len⟩)
  exact ⟨vs, hl, h1, h2⟩
/-- what is owned, as it stands -/
theorem SX.lstAt {a : Addr} {os : List OV} (s : SX K Hf ((.ref a, .lst os) :: its) F H) : ∃ vs, vs.length = os.length ∧ H a = some (.lst vs) := by
  obtain ⟨⟨bs, h, n, al⟩, e⟩ := s
  cases h with
  | cons h r =>
    cases h with
    | @lst _ vs _ b0 q => exact ⟨vs, q.len, (al (a, .lst vs) (by simp)).1⟩
theorem SX.lstRef {os : List OV} (s : SX K Hf ((v, .lst os) :: its) F H) : ∃ a, v = .ref a := by
  obtain ⟨⟨bs, h, n, al⟩, e⟩ := s
  cases h with
  | cons h r => cases h; exact ⟨_, rfl⟩
end

/-! ### freezing -/
def addB (Hf : Hp) : Bs → Hp
  | [] => Hf
  | (a, u) :: bs => upd (addB Hf bs) a u
section
variable {K : PySem.W.Frag} {Hf Hf' H H' : Hp} {its A B : Its} {F bs : Bs} {v w : V} {o : OV} {d : PyData} {p : Addr}
theorem addB_mem : ∀ {bs : Bs} {q : Addr × HO}, (bs.map (·.1)).Nodup → q ∈ bs → addB Hf bs q.1 = some q.2
  | (a, u) :: bs, q, n, h => by
    have n' := List.nodup_cons.mp (show (a :: bs.map (·.1)).Nodup from n)
    rcases List.mem_cons.mp h with rfl | h
    · exact upd_same
    · have ne : q.1 ≠ a := fun e => n'.1 (List.mem_map.mpr ⟨q, h, e⟩)
      show upd (addB Hf bs) a u q.1 = _
      rw [upd_ne ne]
      exact addB_mem n'.2 h
theorem addB_not : ∀ {bs : Bs} {a : Addr}, a ∉ bs.map (·.1) → addB Hf bs a = Hf a
  | [], _, _ => rfl
  | (b, u) :: bs, a, h => by
    have h1 : a ≠ b := fun e => h (by simp [e])
    have h2 : a ∉ bs.map (·.1) := fun e => h (List.mem_cons_of_mem _ e)
    show upd (addB Hf bs) b u a = _
    rw [upd_ne h1]
    exact addB_not h2
theorem addB_cases {bs : Bs} {a : Addr} {u : HO} (h : addB Hf bs a = some u) : (a, u) ∈ bs ∨ Hf a = some u := by
  induction bs with
  | nil => exact .inr h
  | cons q bs ih =>
    obtain ⟨b, x⟩ := q
    have h : upd (addB Hf bs) b x a = some u := h
    by_cases e : a = b
    · subst e; rw [upd_same] at h; cases h; exact .inl List.mem_cons_self
    · rw [upd_ne e] at h
      rcases ih h with z | z
      · exact .inl (List.mem_cons_of_mem _ z)
      · exact .inr z
theorem zip_fst_map {α β γ : Type} (f : α → γ) : ∀ (ks : List α) (vs : List β), ks.length = vs.length → (ks.zip vs).map (fun p => f p.1) = ks.map f
  | [], [], _ => rfl
  | k :: ks, v :: vs, h => by
    simp only [List.zip_cons_cons, List.map_cons]
    rw [zip_fst_map f ks vs (by simpa using h)]
theorem zip_snd {α β : Type} : ∀ (ks : List α) (vs : List β), ks.length = vs.length → (ks.zip vs).map (·.2) = vs
  | [], [], _ => rfl
  | k :: ks, v :: vs, h => by
    simp only [List.zip_cons_cons, List.map_cons]
    rw [zip_snd ks vs (by simpa using h)]
theorem zip_maps {α β γ δ : Type} (f : α → γ) (g : β → δ) : ∀ (ks : List α) (os : List β), (ks.zip os).map (fun p => (f p.1, g p.2)) = (ks.map f).zip (os.map g)
  | [], _ => by simp
  | _ :: _, [] => by simp
  | k :: ks, o :: os => by simp [zip_maps f g ks os]
mutual
theorem Own.rp (e : Ext Hf H') : ∀ {v : V} {o : OV} {bs : Bs}, Own K Hf v o bs → (∀ q ∈ bs, H' q.1 = some q.2) → Rp K H' v (fz o)
  | _, _, _, .sh h, _ => by rw [fz]; exact h.mono e
  | _, _, _, .lst h, a => by
    rw [fz, fzs_eq]
    exact .lst (SqL.of (a _ List.mem_cons_self)) (OwnL.rp e h fun q hq => a q (List.mem_cons_of_mem _ hq))
  | _, _, _, .dk (ks := ks) (vs := vs) (os := os) l _ h, a => by
    have r := OwnL.rp e h fun q hq => a q (List.mem_cons_of_mem _ hq)
    rw [fz, fzk_eq, zip_maps, ← zip_fst_map kD ks vs l]
    exact .dk (.inl (a _ List.mem_cons_self)) (by rw [zip_snd _ _ l]; exact r)
  | _, _, _, .dt (ks := ks) (vs := vs) (os := os) l _ h, a => by
    have r := OwnL.rp e h fun q hq => a q (List.mem_cons_of_mem _ hq)
    rw [fz, fzt_eq, zip_maps, ← zip_fst_map ktD ks vs l]
    exact .dt (.inl (a _ List.mem_cons_self)) (by rw [zip_snd _ _ l]; exact r)
theorem OwnL.rp (e : Ext Hf H') : ∀ {vs : List V} {os : List OV} {bs : Bs}, OwnL K Hf vs os bs → (∀ q ∈ bs, H' q.1 = some q.2) → RpAll K H' vs (os.map fz)
  | _, _, _, .nil, _ => .nil
  | _, _, _, .cons h r, a => .cons (Own.rp e h fun q hq => a q (List.mem_append_left _ hq)) (OwnL.rp e r fun q hq => a q (List.mem_append_right _ hq))
end
/-- what is owned becomes shared -/
theorem SX.freeze (s : SX K Hf ((v, o) :: its) F H) : ∃ Hf', Same Hf Hf' ∧ SX K Hf' ((v, .sh (fz o)) :: its) F H := by
  obtain ⟨⟨bs, h, n, al⟩, e⟩ := s
  cases h with
  | @cons _ _ _ b1 b2 h r =>
    have nd1 : (b1.map (·.1)).Nodup := by
      rw [List.append_assoc, List.map_append] at n
      exact (List.nodup_append.mp n).1
    have key : ∀ q ∈ b1, Hf q.1 = Option.none := fun q hq => (al q (by simp [hq])).2
    have sm : Same Hf (addB Hf b1) := fun a u hu => by
      rw [addB_not]
      · exact hu
      · intro hm
        obtain ⟨q, hq, rfl⟩ := List.mem_map.mp hm
        rw [key q hq] at hu; cases hu
    have mem : ∀ q ∈ b1, addB Hf b1 q.1 = some q.2 := fun q hq => addB_mem nd1 hq
    refine ⟨addB Hf b1, sm, ⟨[] ++ b2, .cons (.sh (h.rp (.of sm) mem)) (r.mono (.of sm)), ?_, fun q hq => ?_⟩, fun a u hu => ?_⟩
    · rw [List.append_assoc, List.map_append] at n
      exact (List.nodup_append.mp n).2.1
    · have hq' : q ∈ b1 ++ b2 ++ F := by rw [List.append_assoc]; exact List.mem_append_right _ hq
      refine ⟨(al q hq').1, ?_⟩
      rw [addB_not]
      · exact (al q hq').2
      · intro hm
        obtain ⟨z, hz, ez⟩ := List.mem_map.mp hm
        rw [List.append_assoc, List.map_append] at n
        have hq2 : q.1 ∈ (b2 ++ F).map (·.1) := List.mem_map.mpr ⟨q, by simpa using hq, rfl⟩
        exact (List.nodup_append.mp n).2.2 q.1 (List.mem_map.mpr ⟨z, hz, ez⟩) q.1 hq2 rfl
    · rcases addB_cases hu with m | m
      · exact .inl (al (a, u) (by simp [m])).1
      · exact e a u m
/-- any item, as it is read now -/
theorem SX.rdH (s : SX K Hf ((v, o) :: its) F H) : Rp K H v (fz o) := by
  obtain ⟨⟨bs, h, n, al⟩, e⟩ := s
  cases h with
  | @cons _ _ _ b1 b2 h r => exact h.rp e fun q hq => (al q (by simp [hq])).1
end
end Ev
namespace Ev
open PySem PySem.Spec L2
open PyProof.Rows hiding St

/-! ### states -/
abbrev Rho := List (Option OV)
structure Exn where
  cls : Str
  cell : PyData
/-- what an expression gives: a value; values; a test's answer; what a statement does; what a def hands back -/
inductive Re where
  | ok (o : OV) (ρ : Rho) | exc (e : Exn) (ρ : Rho) | stk
inductive ReL where
  | ok (os : List OV) (ρ : Rho) | exc (e : Exn) (ρ : Rho) | stk
inductive ReB where
  | ok (b : Bool) (ρ : Rho) | exc (e : Exn) (ρ : Rho) | stk
inductive Out where
  | next (ρ : Rho) | ret (o : OV) (ρ : Rho) | brk (ρ : Rho) | cnt (ρ : Rho) | exc (e : Exn) (ρ : Rho) | stk
inductive Rv where
  | ok (o : OV) | exc (e : Exn) | stk

/-- the slots' items -/
inductive Slots : St → Rho → Its → Prop
  | nil : Slots [] [] []
  | no {σ : St} {ρ : Rho} {its : Its} {x : Option V} : Slots σ ρ its → Slots (x :: σ) (none :: ρ) its
  | yes {σ : St} {ρ : Rho} {its : Its} {v : V} {o : OV} : Slots σ ρ its → Slots (some v :: σ) (some o :: ρ) ((v, o) :: its)
theorem Slots.len : ∀ {σ : St} {ρ : Rho} {its : Its}, Slots σ ρ its → σ.length = ρ.length
  | _, _, _, .nil => rfl
  | _, _, _, .no r => congrArg (· + 1) r.len
  | _, _, _, .yes r => congrArg (· + 1) r.len
theorem Slots.get : ∀ {σ : St} {ρ : Rho} {its : Its} {i : Nat} {o : OV}, Slots σ ρ its → ρ[i]? = some (some o) →
    ∃ v A B, σ[i]? = some (some v) ∧ its = A ++ (v, o) :: B ∧ (∀ o', Slots σ (ρ.set i (some o')) (A ++ (v, o') :: B)) ∧ Slots σ (ρ.set i none) (A ++ B)
  | _, _, _, _, _, .nil, h => by simp at h
  | _, _, _, 0, _, .no r, h => by simp at h
  | _, _, _, i + 1, _, .no r, h => by
    obtain ⟨v, A, B, h1, h2, h3, h4⟩ := r.get (i := i) (by simpa using h)
    exact ⟨v, A, B, by simpa using h1, h2, fun o' => by simpa using Slots.no (h3 o'), by simpa using Slots.no h4⟩
  | _, _, _, 0, _, .yes (v := v) (its := its) r, h => by
    simp at h; subst h
    exact ⟨v, [], its, rfl, rfl, fun o' => .yes r, .no r⟩
  | _, _, _, i + 1, _, .yes (v := w) (o := p) r, h => by
    obtain ⟨v, A, B, h1, h2, h3, h4⟩ := r.get (i := i) (by simpa using h)
    exact ⟨v, (w, p) :: A, B, by simpa using h1, by rw [h2]; rfl, fun o' => by simpa using Slots.yes (h3 o'), by simpa using Slots.yes h4⟩
theorem Slots.put : ∀ {σ : St} {ρ : Rho} {its : Its} {i : Nat} (v : V) (o : OV), Slots σ ρ its → i < ρ.length →
    ∃ A M B, its = A ++ (M ++ B) ∧ Slots (σ.set i (some v)) (ρ.set i (some o)) (A ++ (v, o) :: B)
  | _, _, _, _, _, _, .nil, h => by simp at h
  | _, _, _, 0, v, o, .no (its := its) r, h => ⟨[], [], its, rfl, .yes r⟩
  | _, _, _, i + 1, v, o, .no r, h => by
    obtain ⟨A, M, B, h1, h2⟩ := r.put (i := i) v o (by simpa using h)
    exact ⟨A, M, B, h1, by simpa using Slots.no h2⟩
  | _, _, _, 0, v, o, .yes (v := w) (o := p) (its := its) r, h => ⟨[], [(w, p)], its, rfl, .yes r⟩
  | _, _, _, i + 1, v, o, .yes (v := w) (o := p) r, h => by
    obtain ⟨A, M, B, h1, h2⟩ := r.put (i := i) v o (by simpa using h)
    exact ⟨(w, p) :: A, M, B, by rw [h1]; rfl, by simpa using Slots.yes h2⟩
/-- a slot is forgotten -/
theorem Slots.forget : ∀ {σ : St} {ρ : Rho} {its : Its} (i : Nat) (x : Option V), Slots σ ρ its → ∃ A M B, its = A ++ (M ++ B) ∧ Slots (σ.set i x) (ρ.set i none) (A ++ B)
  | _, _, _, _, _, .nil => ⟨[], [], [], rfl, .nil⟩
  | _, _, _, 0, _, .no (its := its) r => ⟨[], [], its, rfl, .no r⟩
  | _, _, _, i + 1, x, .no r => by
    obtain ⟨A, M, B, h1, h2⟩ := r.forget i x
    exact ⟨A, M, B, h1, by simpa using Slots.no h2⟩
  | _, _, _, 0, _, .yes (v := w) (o := p) (its := its) r => ⟨[], [(w, p)], its, rfl, .no r⟩
  | _, _, _, i + 1, x, .yes (v := w) (o := p) r => by
    obtain ⟨A, M, B, h1, h2⟩ := r.forget i x
    exact ⟨(w, p) :: A, M, B, by rw [h1]; rfl, by simpa using Slots.yes h2⟩
theorem Slots.forget' {σ : St} {ρ : Rho} {its : Its} (i : Nat) (h : Slots σ ρ its) : ∃ A M B, its = A ++ (M ++ B) ∧ Slots σ (ρ.set i none) (A ++ B) := by
  by_cases hi : i < σ.length
  · obtain ⟨A, M, B, h1, h2⟩ := h.forget i (σ[i])
    exact ⟨A, M, B, h1, by simpa using h2⟩
  · have hρ : ρ.set i none = ρ := List.set_eq_of_length_le (by rw [← h.len]; omega)
    exact ⟨its, [], [], by simp, by rw [hρ]; simpa using h⟩

theorem permA {α : Type} (T A M B : List α) : (T ++ (A ++ (M ++ B))).Perm (M ++ (T ++ (A ++ B))) := by
  rw [← List.append_assoc T A (M ++ B), ← List.append_assoc T A B]
  exact List.perm_append_comm_assoc _ _ _
theorem permB {α : Type} (x : α) (T A M B : List α) : (x :: (T ++ (A ++ (M ++ B)))).Perm (M ++ (T ++ (A ++ x :: B))) := by
  refine ((permA T A M B).cons x).trans ?_
  rw [← List.append_assoc T A B, ← List.append_assoc M (T ++ A) B, ← List.append_assoc T A (x :: B), ← List.append_assoc M (T ++ A) (x :: B)]
  exact List.perm_middle.symm
structure SI (K : PySem.W.Frag) (Hf : Hp) (T : Its) (ρ : Rho) (F : Bs) (σ : St) (H : Hp) : Prop where
  ex : ∃ its, Slots σ ρ its ∧ SX K Hf (T ++ its) F H
section
variable {K : PySem.W.Frag} {Hf Hf' H H' : Hp} {T T' A B : Its} {F bs : Bs} {v w : V} {o o' : OV} {d : PyData} {p : Addr} {ρ ρ' : Rho} {σ : St} {i : Nat}
theorem SI.perm (s : SI K Hf T ρ F σ H) (q : T.Perm T') : SI K Hf T' ρ F σ H := by
  obtain ⟨its, h, s⟩ := s.ex
  exact ⟨its, h, s.perm (q.append_right _)⟩
theorem SI.drop (s : SI K Hf ((v, o) :: T) ρ F σ H) : SI K Hf T ρ F σ H := by
  obtain ⟨its, h, s⟩ := s.ex
  exact ⟨its, h, s.drop⟩
theorem SI.dropT (s : SI K Hf T ρ F σ H) : SI K Hf [] ρ F σ H := by
  obtain ⟨its, h, s⟩ := s.ex
  exact ⟨its, h, s.tail⟩
theorem SI.sub (s : SI K Hf T ρ F σ H) : Ext Hf H := by
  obtain ⟨its, h, s⟩ := s.ex
  exact s.sub
theorem SI.len (s : SI K Hf T ρ F σ H) : σ.length = ρ.length := by
  obtain ⟨its, h, s⟩ := s.ex
  exact h.len
theorem SI.freeze (s : SI K Hf ((v, o) :: T) ρ F σ H) : ∃ Hf', Same Hf Hf' ∧ SI K Hf' ((v, .sh (fz o)) :: T) ρ F σ H := by
  obtain ⟨its, h, s⟩ := s.ex
  obtain ⟨Hf', sm, s'⟩ := SX.freeze (its := T ++ its) s
  exact ⟨Hf', sm, its, h, s'⟩
theorem SI.rp (s : SI K Hf ((v, .sh d) :: T) ρ F σ H) : Rp K Hf v d := by
  obtain ⟨its, h, s⟩ := s.ex
  exact SX.rp (its := T ++ its) s
theorem SI.rdH (s : SI K Hf ((v, o) :: T) ρ F σ H) : Rp K H v (fz o) := by
  obtain ⟨its, h, s⟩ := s.ex
  exact SX.rdH (its := T ++ its) s
theorem SI.add (s : SI K Hf T ρ F σ H) (r : Rp K Hf v d) : SI K Hf ((v, .sh d) :: T) ρ F σ H := by
  obtain ⟨its, h, s⟩ := s.ex
  exact ⟨its, h, SX.add (its := T ++ its) s r⟩
/-- a slot's item, taken out -/
theorem SI.take (s : SI K Hf T ρ F σ H) (h : ρ[i]? = some (some o)) : ∃ v, σ[i]? = some (some v) ∧ SI K Hf ((v, o) :: T) (ρ.set i none) F σ H ∧ (∀ o' Hf' H', SI K Hf' ((v, o') :: T) (ρ.set i none) F σ H' → SI K Hf' T (ρ.set i (some o')) F σ H') := by
  obtain ⟨its, hs, s⟩ := s.ex
  obtain ⟨v, A, B, h1, rfl, h3, h4⟩ := hs.get h
  refine ⟨v, h1, ⟨A ++ B, h4, s.perm ?_⟩, fun o' Hf' H' s' => ?_⟩
  · have : (T ++ (A ++ (v, o) :: B)).Perm ((v, o) :: (T ++ (A ++ B))) := by
      rw [← List.append_assoc, ← List.append_assoc]
      exact List.perm_middle
    exact this
  · obtain ⟨its', hs', s''⟩ := s'.ex
    have : its' = A ++ B := by
      have f : ∀ {σ : St} {ρ : Rho} {a b : Its}, Slots σ ρ a → Slots σ ρ b → a = b := by
        intro σ ρ a b ha
        induction ha generalizing b with
        | nil => intro hb; cases hb; rfl
        | no r ih => intro hb; cases hb with | no q => exact ih q
        | yes r ih => intro hb; cases hb with | yes q => rw [ih q]
      exact f hs' h4
    subst this
    refine ⟨A ++ (v, o') :: B, h3 o', s''.perm ?_⟩
    have : ((v, o') :: (T ++ (A ++ B))).Perm (T ++ (A ++ (v, o') :: B)) := by
      rw [← List.append_assoc, ← List.append_assoc]
      exact List.perm_middle.symm
    exact this
/-- a slot is stored -/
theorem SI.put (s : SI K Hf ((v, o) :: T) ρ F σ H) (hi : i < ρ.length) : SI K Hf T (ρ.set i (some o)) F (σ.set i (some v)) H := by
  obtain ⟨its, h, s⟩ := s.ex
  obtain ⟨A, M, B, rfl, h2⟩ := h.put v o hi
  exact ⟨_, h2, SX.tail (A := M) (s.perm (permB (v, o) T A M B))⟩
/-- a slot is forgotten -/
theorem SI.forget (s : SI K Hf T ρ F σ H) (i : Nat) : SI K Hf T (ρ.set i none) F σ H := by
  obtain ⟨its, h, s⟩ := s.ex
  obtain ⟨A, M, B, rfl, h2⟩ := h.forget' i
  exact ⟨_, h2, SX.tail (A := M) (s.perm (permA T A M B))⟩
/-- what is beside a part is framed -/
theorem SI.framed (s : SI K Hf (A ++ B) ρ F σ H) : ∃ bs, SX K Hf A (bs ++ F) H ∧ ∀ Hf' H' A', Same Hf Hf' → SX K Hf' A' (bs ++ F) H' → SI K Hf' (A' ++ B) ρ F σ H' := by
  obtain ⟨its, h, s⟩ := s.ex
  rw [List.append_assoc] at s
  obtain ⟨bs, hB, s'⟩ := s.frame
  refine ⟨bs, s', fun Hf' H' A' sm q => ⟨its, h, ?_⟩⟩
  rw [List.append_assoc]
  exact q.unframe (hB.mono (.of sm))
theorem SI.new {u : HO} (s : SI K Hf T ρ F σ H) (hp : H p = Option.none) : SI K (upd Hf p u) T ρ F σ (upd H p u) ∧ Same Hf (upd Hf p u) := by
  obtain ⟨its, h, s⟩ := s.ex
  obtain ⟨s', sm⟩ := s.new (u := u) hp
  exact ⟨⟨its, h, s'⟩, sm⟩
end

/-! ### judgements -/
/-- the exception e, as it lies in H -/
def ExnIs (mg : Str → Option Value) (K : PySem.W.Frag) (Hf H : Hp) (e : Exn) (cls : Value) (d : Option Addr) : Prop :=
  ∃ (C dx : Addr) (fs : List (Str × V)) (v : V), mg e.cls = some (.ref C) ∧ cls = .ref C ∧ d = some dx ∧ H dx = some (.xd fs) ∧ fs.lookup ("cell" : Str) = some v ∧ Rp K Hf v e.cell
section
variable (X : Cx) (W : WX) (Hf : Hp) (T : Its) (F : Bs) (σ : St)
def PostE (r : Re) (Q : VK) : Prop :=
  match r with
  | .ok o ρ' => ∀ v H' Hf', Same Hf Hf' → SI X.K Hf' ((v, o) :: T) ρ' F σ H' → Q v H'
  | .exc e ρ' => ∀ H' Hf' cls d, Same Hf Hf' → SI X.K Hf' [] ρ' F σ H' → ExnIs X.mg X.K Hf' H' e cls d → W cls d σ H'
  | .stk => False
def PostL (r : ReL) (Q : List V → Hp → Prop) : Prop :=
  match r with
  | .ok os ρ' => ∀ vs H' Hf', vs.length = os.length → Same Hf Hf' → SI X.K Hf' (vs.zip os ++ T) ρ' F σ H' → Q vs H'
  | .exc e ρ' => ∀ H' Hf' cls d, Same Hf Hf' → SI X.K Hf' [] ρ' F σ H' → ExnIs X.mg X.K Hf' H' e cls d → W cls d σ H'
  | .stk => False
def PostB (r : ReB) (Q : Bool → Hp → Prop) : Prop :=
  match r with
  | .ok b ρ' => ∀ H' Hf', Same Hf Hf' → SI X.K Hf' T ρ' F σ H' → Q b H'
  | .exc e ρ' => ∀ H' Hf' cls d, Same Hf Hf' → SI X.K Hf' [] ρ' F σ H' → ExnIs X.mg X.K Hf' H' e cls d → W cls d σ H'
  | .stk => False
def PostS (r : Out) (D : Ends) : Prop :=
  match r with
  | .next ρ' => ∀ σ' H' Hf', Same Hf Hf' → SI X.K Hf' [] ρ' F σ' H' → D.nx σ' H'
  | .ret o ρ' => ∀ v σ' H' Hf', Same Hf Hf' → SI X.K Hf' [(v, o)] ρ' F σ' H' → D.rt v H'
  | .brk ρ' => ∀ σ' H' Hf', Same Hf Hf' → SI X.K Hf' [] ρ' F σ' H' → D.bk σ' H'
  | .cnt ρ' => ∀ σ' H' Hf', Same Hf Hf' → SI X.K Hf' [] ρ' F σ' H' → D.ct σ' H'
  | .exc e ρ' => ∀ σ' H' Hf' cls d, Same Hf Hf' → SI X.K Hf' [] ρ' F σ' H' → ExnIs X.mg X.K Hf' H' e cls d → W cls d σ' H'
  | .stk => False
end
def tE (X : Cx) (W : WX) (f : Rho → Re) : TE := fun σ H Q => ∃ Hf T ρ F, SI X.K Hf T ρ F σ H ∧ PostE X W Hf T F σ (f ρ) Q
def tL (X : Cx) (W : WX) (f : Rho → ReL) : TA := fun σ H Q => ∃ Hf T ρ F, SI X.K Hf T ρ F σ H ∧ PostL X W Hf T F σ (f ρ) Q
def tT (X : Cx) (W : WX) (f : Rho → ReB) : TT := fun σ H Q => ∃ Hf T ρ F, SI X.K Hf T ρ F σ H ∧ PostB X W Hf T F σ (f ρ) Q
def tSt (X : Cx) (W : WX) (g : Rho → Out) : TS := fun D σ H => ∃ Hf ρ F, SI X.K Hf [] ρ F σ H ∧ PostS X W Hf F (g ρ) D

/-- e computes f -/
def EvE (X : Cx) (W : WX) (e : Expr) (f : Rho → Re) : Prop := PE X e (tE X W f)
def EvL (X : Cx) (W : WX) (es : List Expr) (f : Rho → ReL) : Prop := PA X es (tL X W f)
def EvT (X : Cx) (W : WX) (e : Expr) (f : Rho → ReB) : Prop := PT X e (tT X W f)
def EvC (X : Cx) (W : WX) (op : CmpOp) (a b : Expr) (f : Rho → Re) : Prop := PC X op a b (tE X W f)
def EvS (X : Cx) (W : WX) (st : Stmt) (g : Rho → Out) : Prop := PS X st (tSt X W g)
def EvB (X : Cx) (W : WX) (sts : List Stmt) (g : Rho → Out) : Prop := PSs X sts (tSt X W g)

theorem pe_w {X : Cx} {e : Expr} {t t' : TE} (h : PE X e t) (hw : ∀ σ H Q, t' σ H Q → t σ H Q) : PE X e t' := ⟨fun pins s σ H Q I h' => h.run pins s σ H Q I (hw σ H Q h')⟩
theorem pa_w {X : Cx} {es : List Expr} {t t' : TA} (h : PA X es t) (hw : ∀ σ H Q, t' σ H Q → t σ H Q) : PA X es t' := ⟨fun pos pins s σ H Q I h' => h.run pos pins s σ H Q I (hw σ H Q h')⟩
theorem pt_w {X : Cx} {e : Expr} {t t' : TT} (h : PT X e t) (hw : ∀ σ H Q, t' σ H Q → t σ H Q) : PT X e t' := ⟨fun pins s σ H Q I h' => h.run pins s σ H Q I (hw σ H Q h')⟩
theorem pc_w {X : Cx} {op : CmpOp} {a b : Expr} {t t' : TE} (h : PC X op a b t) (hw : ∀ σ H Q, t' σ H Q → t σ H Q) : PC X op a b t' := ⟨fun pins s σ H Q I h' => h.run pins s σ H Q I (hw σ H Q h')⟩
theorem ps_w {X : Cx} {st : Stmt} {t t' : TS} (h : PS X st t) (hw : ∀ D σ H, t' D σ H → t D σ H) : PS X st t' := ⟨fun pins s σ H D I h' => h.run pins s σ H D I (hw D σ H h')⟩
theorem pss_w {X : Cx} {st : List Stmt} {t t' : TS} (h : PSs X st t) (hw : ∀ D σ H, t' D σ H → t D σ H) : PSs X st t' := ⟨fun pins s σ H D I h' => h.run pins s σ H D I (hw D σ H h')⟩

/-! ### sequences -/
def bindE (r : Re) (k : OV → Rho → Re) : Re := match r with
  | .ok o ρ => k o ρ
  | .exc e ρ => .exc e ρ
  | .stk => .stk
def bindEL (r : Re) (k : OV → Rho → ReL) : ReL := match r with
  | .ok o ρ => k o ρ
  | .exc e ρ => .exc e ρ
  | .stk => .stk
def bindL (r : ReL) (k : List OV → Rho → Re) : Re := match r with
  | .ok o ρ => k o ρ
  | .exc e ρ => .exc e ρ
  | .stk => .stk
def bindLL (r : ReL) (k : List OV → Rho → ReL) : ReL := match r with
  | .ok o ρ => k o ρ
  | .exc e ρ => .exc e ρ
  | .stk => .stk
def bindB (r : ReB) (k : Bool → Rho → Re) : Re := match r with
  | .ok o ρ => k o ρ
  | .exc e ρ => .exc e ρ
  | .stk => .stk
def bindBB (r : ReB) (k : Bool → Rho → ReB) : ReB := match r with
  | .ok o ρ => k o ρ
  | .exc e ρ => .exc e ρ
  | .stk => .stk
def bindEB (r : Re) (k : OV → Rho → ReB) : ReB := match r with
  | .ok o ρ => k o ρ
  | .exc e ρ => .exc e ρ
  | .stk => .stk
def bindS (r : Re) (k : OV → Rho → Out) : Out := match r with
  | .ok o ρ => k o ρ
  | .exc e ρ => .exc e ρ
  | .stk => .stk
def bindBS (r : ReB) (k : Bool → Rho → Out) : Out := match r with
  | .ok o ρ => k o ρ
  | .exc e ρ => .exc e ρ
  | .stk => .stk
section
variable {X : Cx} {W : WX} {Hf : Hp} {T T' : Its} {F : Bs} {σ : St} {Q : VK}
theorem PostE.mono {Hf' : Hp} (sm : Same Hf Hf') : ∀ {r : Re}, PostE X W Hf T F σ r Q → PostE X W Hf' T F σ r Q
  | .ok _ _, h => fun v H' Hf2 s => h v H' Hf2 (sm.trans s)
  | .exc _ _, h => fun H' Hf2 cls d s => h H' Hf2 cls d (sm.trans s)
  | .stk, h => h
theorem PostL.mono {Hf' : Hp} (sm : Same Hf Hf') {Q : List V → Hp → Prop} : ∀ {r : ReL}, PostL X W Hf T F σ r Q → PostL X W Hf' T F σ r Q
  | .ok _ _, h => fun v H' Hf2 l s => h v H' Hf2 l (sm.trans s)
  | .exc _ _, h => fun H' Hf2 cls d s => h H' Hf2 cls d (sm.trans s)
  | .stk, h => h
theorem PostB.mono {Hf' : Hp} (sm : Same Hf Hf') {Q : Bool → Hp → Prop} : ∀ {r : ReB}, PostB X W Hf T F σ r Q → PostB X W Hf' T F σ r Q
  | .ok _ _, h => fun H' Hf2 s => h H' Hf2 (sm.trans s)
  | .exc _ _, h => fun H' Hf2 cls d s => h H' Hf2 cls d (sm.trans s)
  | .stk, h => h
theorem PostS.mono {Hf' : Hp} (sm : Same Hf Hf') {D : Ends} : ∀ {r : Out}, PostS X W Hf F r D → PostS X W Hf' F r D
  | .next _, h => fun σ' H' Hf2 s => h σ' H' Hf2 (sm.trans s)
  | .ret _ _, h => fun v σ' H' Hf2 s => h v σ' H' Hf2 (sm.trans s)
  | .brk _, h => fun σ' H' Hf2 s => h σ' H' Hf2 (sm.trans s)
  | .cnt _, h => fun σ' H' Hf2 s => h σ' H' Hf2 (sm.trans s)
  | .exc _ _, h => fun σ' H' Hf2 cls d s => h σ' H' Hf2 cls d (sm.trans s)
  | .stk, h => h
theorem PostE.bind {r : Re} {k : OV → Rho → Re} {Q1 : VK} (h : PostE X W Hf T F σ (bindE r k) Q)
    (hk : ∀ a ρ1 v H1 Hf1, Same Hf Hf1 → SI X.K Hf1 ((v, a) :: T') ρ1 F σ H1 → PostE X W Hf1 T F σ (k a ρ1) Q → Q1 v H1) : PostE X W Hf T' F σ r Q1 := by
  cases r with
  | ok o ρ => exact fun v H1 Hf1 sm s => hk o ρ v H1 Hf1 sm s (PostE.mono sm h)
  | exc e ρ => exact h
  | stk => exact h
theorem PostE.bindEL {r : Re} {k : OV → Rho → ReL} {Q : List V → Hp → Prop} {Q1 : VK} (h : PostL X W Hf T F σ (bindEL r k) Q)
    (hk : ∀ a ρ1 v H1 Hf1, Same Hf Hf1 → SI X.K Hf1 ((v, a) :: T') ρ1 F σ H1 → PostL X W Hf1 T F σ (k a ρ1) Q → Q1 v H1) : PostE X W Hf T' F σ r Q1 := by
  cases r with
  | ok o ρ => exact fun v H1 Hf1 sm s => hk o ρ v H1 Hf1 sm s (PostL.mono sm h)
  | exc e ρ => exact h
  | stk => exact h
theorem PostL.bind {r : ReL} {k : List OV → Rho → Re} {Q1 : List V → Hp → Prop} (h : PostE X W Hf T F σ (bindL r k) Q)
    (hk : ∀ as ρ1 vs H1 Hf1, vs.length = as.length → Same Hf Hf1 → SI X.K Hf1 (vs.zip as ++ T') ρ1 F σ H1 → PostE X W Hf1 T F σ (k as ρ1) Q → Q1 vs H1) : PostL X W Hf T' F σ r Q1 := by
  cases r with
  | ok o ρ => exact fun v H1 Hf1 l sm s => hk o ρ v H1 Hf1 l sm s (PostE.mono sm h)
  | exc e ρ => exact h
  | stk => exact h
theorem PostL.bindLL {r : ReL} {k : List OV → Rho → ReL} {Q : List V → Hp → Prop} {Q1 : List V → Hp → Prop} (h : PostL X W Hf T F σ (bindLL r k) Q)
    (hk : ∀ as ρ1 vs H1 Hf1, vs.length = as.length → Same Hf Hf1 → SI X.K Hf1 (vs.zip as ++ T') ρ1 F σ H1 → PostL X W Hf1 T F σ (k as ρ1) Q → Q1 vs H1) : PostL X W Hf T' F σ r Q1 := by
  cases r with
  | ok o ρ => exact fun v H1 Hf1 l sm s => hk o ρ v H1 Hf1 l sm s (PostL.mono sm h)
  | exc e ρ => exact h
  | stk => exact h
theorem PostB.bind {r : ReB} {k : Bool → Rho → Re} {Q1 : Bool → Hp → Prop} (h : PostE X W Hf T F σ (bindB r k) Q)
    (hk : ∀ b ρ1 H1 Hf1, Same Hf Hf1 → SI X.K Hf1 T' ρ1 F σ H1 → PostE X W Hf1 T F σ (k b ρ1) Q → Q1 b H1) : PostB X W Hf T' F σ r Q1 := by
  cases r with
  | ok o ρ => exact fun H1 Hf1 sm s => hk o ρ H1 Hf1 sm s (PostE.mono sm h)
  | exc e ρ => exact h
  | stk => exact h
theorem PostB.bindBB {r : ReB} {k : Bool → Rho → ReB} {Q Q1 : Bool → Hp → Prop} (h : PostB X W Hf T F σ (bindBB r k) Q)
    (hk : ∀ b ρ1 H1 Hf1, Same Hf Hf1 → SI X.K Hf1 T' ρ1 F σ H1 → PostB X W Hf1 T F σ (k b ρ1) Q → Q1 b H1) : PostB X W Hf T' F σ r Q1 := by
  cases r with
  | ok o ρ => exact fun H1 Hf1 sm s => hk o ρ H1 Hf1 sm s (PostB.mono sm h)
  | exc e ρ => exact h
  | stk => exact h
theorem PostE.bindEB {r : Re} {k : OV → Rho → ReB} {Q : Bool → Hp → Prop} {Q1 : VK} (h : PostB X W Hf T F σ (bindEB r k) Q)
    (hk : ∀ a ρ1 v H1 Hf1, Same Hf Hf1 → SI X.K Hf1 ((v, a) :: T') ρ1 F σ H1 → PostB X W Hf1 T F σ (k a ρ1) Q → Q1 v H1) : PostE X W Hf T' F σ r Q1 := by
  cases r with
  | ok o ρ => exact fun v H1 Hf1 sm s => hk o ρ v H1 Hf1 sm s (PostB.mono sm h)
  | exc e ρ => exact h
  | stk => exact h
theorem PostE.bindS {r : Re} {k : OV → Rho → Out} {D : Ends} {Q1 : VK} (h : PostS X W Hf F (bindS r k) D)
    (hk : ∀ a ρ1 v H1 Hf1, Same Hf Hf1 → SI X.K Hf1 ((v, a) :: T') ρ1 F σ H1 → PostS X W Hf1 F (k a ρ1) D → Q1 v H1) : PostE X W Hf T' F σ r Q1 := by
  cases r with
  | ok o ρ => exact fun v H1 Hf1 sm s => hk o ρ v H1 Hf1 sm s (PostS.mono sm h)
  | exc e ρ => exact fun H' Hf' cls d sm s x => h σ H' Hf' cls d sm s x
  | stk => exact h
theorem PostB.bindBS {r : ReB} {k : Bool → Rho → Out} {D : Ends} {Q1 : Bool → Hp → Prop} (h : PostS X W Hf F (bindBS r k) D)
    (hk : ∀ a ρ1 H1 Hf1, Same Hf Hf1 → SI X.K Hf1 T' ρ1 F σ H1 → PostS X W Hf1 F (k a ρ1) D → Q1 a H1) : PostB X W Hf T' F σ r Q1 := by
  cases r with
  | ok o ρ => exact fun H1 Hf1 sm s => hk o ρ H1 Hf1 sm s (PostS.mono sm h)
  | exc e ρ => exact fun H' Hf' cls d sm s x => h σ H' Hf' cls d sm s x
  | stk => exact h
end
end Ev
namespace Ev
open PySem PySem.Spec L2
open PyProof.Rows hiding St

structure Good (X : Cx) (W : WX) (n : Nat) : Prop where
  nd : X.N.Nodup
  calm : X.calm = true
  tk : Takes X W
  po : PassesOwn (model X.prog X.w) X.A X.env X.xe
  hr : Room n X.A
/-- in a comprehension's block nothing is raised -/
abbrev W0 : WX := fun _ _ _ _ => False
theorem Good.blk {X : Cx} {W : WX} {n : Nat} (g : Good X W n) (s : Shared) (H : Hp) (scope : Scope) (cenv : Env) (fp : List Addr) : Good (X.blk s H scope cenv fp) W0 n :=
  ⟨g.nd, g.calm, takes0, .never, g.hr⟩
theorem Good.hu {X : Cx} {W : WX} {n : Nat} (g : Good X W n) : X.A.units + 65 < cLine := by have := g.hr.un; omega

section
variable {X : Cx} {W : WX} {e a b c : Expr} {f fa fb fc : Rho → Re} {pos : Pos} {n : Nat}

/-! ### constants and names -/
def cC (d : PyData) (ρ : Rho) : Re := .ok (.sh d) ρ
theorem ev_c {v : V} {d : PyData} (h : PE X e (tC v)) (r : ∀ H, Rp X.K H v d) : EvE X W e (cC d) :=
  pe_w h fun σ H Q ⟨Hf, T, ρ, F, s, h⟩ => h v H Hf (Same.refl _) (s.add (r _))
theorem ev_int {i : Int} {j} : EvE X W (.Constant (.int i) j pos) (cC (.int i)) := ev_c pe_int fun _ => .int i
theorem ev_bl {i : Bool} {j} : EvE X W (.Constant (.bool i) j pos) (cC (.bool i)) := ev_c pe_bl fun _ => .bl i
theorem ev_non {j} : EvE X W (.Constant .none j pos) (cC .none) := ev_c pe_non fun _ => .non
theorem ev_str {x : Str} {j} : EvE X W (.Constant (.str x) j pos) (cC (.str x)) := ev_c pe_str fun _ => .str x
/-- a module's constant -/
theorem ev_gint {x : Str} {i : Int} {t : Tok} (hg : Gl X x) (hm : X.mg x = some (.int i t)) (hd : (x == ("__debug__" : Str)) = false := by decide) : EvE X W (.Name x pos) (cC (.int i)) := ev_c (pe_glob (v := .int i) hg hm ⟨t, rfl⟩ hd) fun _ => .int i
theorem ev_gtup {x : Str} {a : Addr} {xs : List Str} (hg : Gl X x) (hm : X.mg x = some (.ref a)) (hs : ∀ H, SqT X.K H a (xs.map V.str)) (hn : xs ≠ []) (hd : (x == ("__debug__" : Str)) = false := by decide) : EvE X W (.Name x pos) (cC (.tuple (xs.map .str))) :=
  ev_c (pe_glob (v := .ref a) hg hm rfl hd) fun H => .tupK (hs H) hn

/-- a name: what is owned is shared from here on -/
def eV (i : Nat) (ρ : Rho) : Re := match ρ[i]? with
  | some (some o) => .ok (.sh (fz o)) (ρ.set i (some (.sh (fz o))))
  | _ => .stk
/-- a name's last use -/
def eM (i : Nat) (ρ : Rho) : Re := match ρ[i]? with
  | some (some o) => .ok o (ρ.set i none)
  | _ => .stk
theorem ev_var {i : Nat} (h : PE X e (tVar i)) : EvE X W e (eV i) := pe_w h fun σ H Q ⟨Hf, T, ρ, F, s, h⟩ => by
  unfold eV at h
  cases q : ρ[i]? with
  | none => rw [q] at h; exact h.elim
  | some x =>
    cases x with
    | none => rw [q] at h; exact h.elim
    | some o =>
      rw [q] at h
      obtain ⟨v, h1, s1, back⟩ := s.take q
      obtain ⟨Hf', sm, s2⟩ := s1.freeze
      refine ⟨v, h1, h v H Hf' sm ?_⟩
      have s3 := s2.add s2.rp
      obtain ⟨v', h1', _⟩ := id s3
      exact (SI.perm (T := (v, .sh (fz o)) :: (v, .sh (fz o)) :: T) (T' := (v, .sh (fz o)) :: (v, .sh (fz o)) :: T) s3 (.refl _)) |> fun z => by
        have := back (.sh (fz o)) Hf' H s2
        exact this.add s2.rp
theorem ev_mv {i : Nat} (h : PE X e (tVar i)) : EvE X W e (eM i) := pe_w h fun σ H Q ⟨Hf, T, ρ, F, s, h⟩ => by
  unfold eM at h
  cases q : ρ[i]? with
  | none => rw [q] at h; exact h.elim
  | some x =>
    cases x with
    | none => rw [q] at h; exact h.elim
    | some o =>
      rw [q] at h
      obtain ⟨v, h1, s1, back⟩ := s.take q
      exact ⟨v, h1, h v H Hf (Same.refl _) s1⟩

/-! ### two operands -/
def Op2 (K : PySem.W.Frag) (r : R2) (g : OV → OV → Option OV) : Prop :=
  ∀ (Hf : Hp) (its : Its) (F : Bs) (H : Hp) (x y : V) (a b c : OV) (Q : VK), SX K Hf ((y, b) :: (x, a) :: its) F H → g a b = some c →
    (∀ v H' Hf', Same Hf Hf' → SX K Hf' ((v, c) :: its) F H' → Q v H') → r x y H Q
def ofO (o : Option OV) (ρ : Rho) : Re := match o with
  | some c => .ok c ρ
  | none => .stk
def eBin (g : OV → OV → Option OV) (fa fb : Rho → Re) (ρ : Rho) : Re := bindE (fa ρ) fun a ρ1 => bindE (fb ρ1) fun b ρ2 => ofO (g a b) ρ2
theorem op_post {r : R2} {g : OV → OV → Option OV} (ho : Op2 X.K r g) {Hf : Hp} {T : Its} {ρ : Rho} {F : Bs} {σ : St} {H : Hp} {x y : V} {a b : OV} {Q : VK}
    (s : SI X.K Hf ((y, b) :: (x, a) :: T) ρ F σ H) (h : PostE X W Hf T F σ (ofO (g a b) ρ) Q) : r x y H Q := by
  cases q : g a b with
  | none => rw [q] at h; exact h.elim
  | some c =>
    rw [q] at h
    obtain ⟨its, hs, s⟩ := s.ex
    exact ho Hf (T ++ its) F H x y a b c Q s q fun v H' Hf' sm s' => h v H' Hf' sm ⟨its, hs, s'⟩
theorem ev_top {r : R2} {g : OV → OV → Option OV} (ho : Op2 X.K r g) (h : PE X e (tOp r (tE X W fa) (tE X W fb))) : EvE X W e (eBin g fa fb) := pe_w h fun σ H Q ⟨Hf, T, ρ, F, s, h⟩ => by
  refine ⟨Hf, T, ρ, F, s, PostE.bind h fun a ρ1 x H1 Hf1 sm s1 h1 => ⟨Hf1, (x, a) :: T, ρ1, F, s1, PostE.bind h1 fun b ρ2 y H2 Hf2 sm2 s2 h2 => ?_⟩⟩
  exact op_post ho s2 h2
theorem ev_op {op : Operator} {r : R2} {g : OV → OV → Option OV} (hr : OpR X (binaryOp op) r) (ho : Op2 X.K r g) (ha : EvE X W a fa) (hb : EvE X W b fb) : EvE X W (.BinOp a op b pos) (eBin g fa fb) := ev_top ho (pe_op hr ha hb)
theorem ec_op {op : CmpOp} {r : R2} {g : OV → OV → Option OV} (hr : OpR X (compareOp op) r) (ho : Op2 X.K r g) (ha : EvE X W a fa) (hb : EvE X W b fb) : EvC X W op a b (eBin g fa fb) := by
  have h : PC X op a b (tOp r (tE X W fa) (tE X W fb)) := ⟨fun pins s σ H Q I h => binT ha hb I h fun v u s2 x y H2 I2 rx ry q => hr pins s2 σ H2 x y v u Q I2 rx ry q⟩
  refine pc_w h fun σ H Q ⟨Hf, T, ρ, F, s, h⟩ => ?_
  refine ⟨Hf, T, ρ, F, s, PostE.bind h fun a ρ1 x H1 Hf1 sm s1 h1 => ⟨Hf1, (x, a) :: T, ρ1, F, s1, PostE.bind h1 fun b ρ2 y H2 Hf2 sm2 s2 h2 => ?_⟩⟩
  exact op_post ho s2 h2
/-- one operand -/
def Op1 (K : PySem.W.Frag) (r : V → Hp → VK → Prop) (g : OV → Option OV) : Prop :=
  ∀ (Hf : Hp) (its : Its) (F : Bs) (H : Hp) (x : V) (a c : OV) (Q : VK), SX K Hf ((x, a) :: its) F H → g a = some c →
    (∀ v H' Hf', Same Hf Hf' → SX K Hf' ((v, c) :: its) F H' → Q v H') → r x H Q
def eUn (g : OV → Option OV) (fa : Rho → Re) (ρ : Rho) : Re := bindE (fa ρ) fun a ρ1 => ofO (g a) ρ1
theorem op_post1 {r : V → Hp → VK → Prop} {g : OV → Option OV} (ho : Op1 X.K r g) {Hf : Hp} {T : Its} {ρ : Rho} {F : Bs} {σ : St} {H : Hp} {x : V} {a : OV} {Q : VK}
    (s : SI X.K Hf ((x, a) :: T) ρ F σ H) (h : PostE X W Hf T F σ (ofO (g a) ρ) Q) : r x H Q := by
  cases q : g a with
  | none => rw [q] at h; exact h.elim
  | some c =>
    rw [q] at h
    obtain ⟨its, hs, s⟩ := s.ex
    exact ho Hf (T ++ its) F H x a c Q s q fun v H' Hf' sm s' => h v H' Hf' sm ⟨its, hs, s'⟩
theorem ev_tun {r : V → Hp → VK → Prop} {g : OV → Option OV} (ho : Op1 X.K r g) (h : PE X e (tUn r (tE X W fa))) : EvE X W e (eUn g fa) := pe_w h fun σ H Q ⟨Hf, T, ρ, F, s, h⟩ =>
  ⟨Hf, T, ρ, F, s, PostE.bind h fun a ρ1 x H1 Hf1 sm s1 h1 => op_post1 ho s1 h1⟩
theorem ev_un {op : UnaryOp} {r : V → Hp → VK → Prop} {g : OV → Option OV} (hr : UnR X (unaryOp op) r) (ho : Op1 X.K r g) (ha : EvE X W a fa) : EvE X W (.UnaryOp op a pos) (eUn g fa) := ev_tun ho (pe_un hr ha)
end

/-! ### ints -/
def oI : OV → Option Int
  | .sh (.int i) => some i
  | _ => none
theorem oI_eq {a : OV} {i : Int} (h : oI a = some i) : a = .sh (.int i) := by
  unfold oI at h
  split at h
  · cases h; rfl
  · cases h
/-- C: what must hold; f: the answer -/
def gII (C : Int → Int → Bool) (f : Int → Int → PyData) (a b : OV) : Option OV := match oI a, oI b with
  | some i, some j => if C i j = true then some (.sh (f i j)) else none
  | _, _ => none
theorem rp_int {K : PySem.W.Frag} {H : Hp} {x : V} {i : Int} (h : Rp K H x (.int i)) : x = .int i := by cases h; rfl
theorem rp_bl {K : PySem.W.Frag} {H : Hp} {x : V} {i : Bool} (h : Rp K H x (.bool i)) : x = .bl i := by cases h; rfl
theorem rp_str {K : PySem.W.Frag} {H : Hp} {x : V} {i : Str} (h : Rp K H x (.str i)) : x = .str i := by cases h; rfl
theorem rp_non {K : PySem.W.Frag} {H : Hp} {x : V} (h : Rp K H x .none) : x = .non := by cases h; rfl
theorem op2_int {K : PySem.W.Frag} {r : R2} {C : Int → Int → Bool} {f : Int → Int → PyData} {fv : Int → Int → V} (hf : ∀ i j H, Rp K H (fv i j) (f i j))
    (hr : ∀ i j H Q, C i j = true → Q (fv i j) H → r (.int i) (.int j) H Q) : Op2 K r (gII C f) := by
  intro Hf its F H x y a b c Q s h q
  unfold gII at h
  split at h
  · rename_i i j h1 h2
    obtain rfl := oI_eq h1
    obtain rfl := oI_eq h2
    by_cases hC : C i j = true
    · rw [if_pos hC] at h; cases h
      have ey := rp_int s.rp
      have ex := rp_int s.drop.rp
      subst ex ey
      exact hr i j H Q hC (q _ _ Hf (Same.refl _) (s.drop.drop.add (hf i j _)))
    · rw [if_neg hC] at h; cases h
  · cases h
theorem op2_I0 {K : PySem.W.Frag} (g : Int → Int → Int) : Op2 K (rI0 fun i j => .int (g i j)) (gII (fun _ _ => true) fun i j => .int (g i j)) := op2_int (fun _ _ _ => .int _) fun i j H Q _ q => ⟨i, j, rfl, rfl, q⟩
theorem op2_B0 {K : PySem.W.Frag} (g : Int → Int → Bool) : Op2 K (rI0 fun i j => .bl (g i j)) (gII (fun _ _ => true) fun i j => .bool (g i j)) := op2_int (fun _ _ _ => .bl _) fun i j H Q _ q => ⟨i, j, rfl, rfl, q⟩
theorem op2_I {K : PySem.W.Frag} {C : Int → Int → Prop} {D : Int → Int → Bool} (g : Int → Int → Int) (hD : ∀ i j, D i j = true → C i j) : Op2 K (rI C fun i j => .int (g i j)) (gII D fun i j => .int (g i j)) := op2_int (fun _ _ _ => .int _) fun i j H Q d q => ⟨i, j, rfl, rfl, hD i j d, q⟩
end Ev
namespace Ev
open PySem PySem.Spec L2
open PyProof.Rows hiding St

section
variable {K : PySem.W.Frag} {Hf Hf' H H' : Hp} {its A B : Its} {F bs : Bs} {v w x y : V} {a b o : OV} {d : PyData} {p : Addr}
theorem SX.freeze2 (s : SX K Hf ((y, b) :: (x, a) :: its) F H) : ∃ Hf', Same Hf Hf' ∧ SX K Hf' ((y, .sh (fz b)) :: (x, .sh (fz a)) :: its) F H := by
  obtain ⟨H1, s1, h1⟩ := s.freeze
  obtain ⟨H2, s2, h2⟩ := (h1.perm (List.Perm.swap _ _ _)).freeze
  exact ⟨H2, s1.trans s2, h2.perm (List.Perm.swap _ _ _)⟩
theorem SX.mkTup {xs : List V} {ds : List PyData} (s : SX K Hf its F H) (r : RpAll K Hf xs ds) (hp : H p = none) : SX K (upd Hf p (.tup xs)) ((.ref p, .sh (.tuple ds)) :: its) F (upd H p (.tup xs)) ∧ Same Hf (upd Hf p (.tup xs)) := by
  obtain ⟨s', sm⟩ := s.new (u := .tup xs) hp
  exact ⟨s'.add (.tup upd_same (r.mono (.of sm))), sm⟩
theorem SX.mkLst {xs : List V} {ds : List PyData} (s : SX K Hf its F H) (r : RpAll K Hf xs ds) (hp : H p = none) : SX K Hf ((.ref p, .lst (ds.map .sh)) :: its) F (upd H p (.lst xs)) :=
  SX.newOwn (C := []) s hp fun bs h => by
    cases h
    exact .lst (OwnL.of_rp r)
end

section
variable {X : Cx} {W : WX} {e a b c : Expr} {f fa fb fc : Rho → Re} {pos : Pos} {n : Nat}
theorem OpR.or {f : Value → Value → Sem Value} {r r' : R2} (h : OpR X f r) (h' : OpR X f r') : OpR X f (fun x y H Q => r x y H Q ∨ r' x y H Q) :=
  fun pins s σ H x y v u Q I rx ry q => q.elim (h pins s σ H x y v u Q I rx ry) (h' pins s σ H x y v u Q I rx ry)
/-! ### + -/
def rCatR (K : PySem.W.Frag) : R2 := fun x y H Q => ∃ l b xs zs, x = .ref l ∧ y = .ref b ∧ SqL K H l xs ∧ SqL K H b zs ∧ xs.length + zs.length ≤ sizeLine ∧ ∀ p, H p = none → Q (.ref p) (upd H p (.lst (xs ++ zs)))
theorem op_catR : OpR X (binaryOp .Add) (rCatR X.K) := by
  intro pins s σ H x y v u Q I rx ry ⟨l, b, xs, zs, e1, e2, hH, hB, hz, q⟩
  subst e1 e2
  cases rx
  cases ry
  obtain ⟨its1, v1, ⟨⟨k1, d1, dat1, sl1⟩, n1, g1, c1, _, h1⟩, _⟩ := I.list hH
  obtain ⟨its2, v2, ⟨⟨k2, d2, dat2, sl2⟩, n2, g2, c2, _, h2⟩, _⟩ := I.list hB
  simp only at c1 h1 c2 h2
  subst c1 h1 c2 h2
  have l1 := v1.length
  have l2 := v2.length
  refine concat_meets ⟨_, g1, rfl⟩ ⟨_, g2, rfl⟩ noFill_list_add seq_list_add PySem.F.slot_list_add PySem.F.entry_list_add (PySem.F.args_list_add_2 _ _) (list_addW l b its1.toArray its2.toArray n1 n2 d1 d2 sl1 sl2 (by simp only [List.size_toArray]; omega)) ⟨g1, g2, ?_⟩
  rw [show its1.toArray ++ its2.toArray = (its1 ++ its2).toArray from by simp]
  exact ⟨.ref _, _, I.lnew (t' := s.toks) (v1.append v2) (by rw [List.length_append]; omega), rfl, q _ I.fresh⟩
def gAdd (a b : OV) : Option OV := match fz a, fz b with
  | .int i, .int j => some (.sh (.int (i + j)))
  | .str x, .str y => if x.length + y.length ≤ sizeLine then some (.sh (.str (x ++ y))) else none
  | .tuple xs, .tuple ys => if xs.length + ys.length ≤ sizeLine then some (.sh (.tuple (xs ++ ys))) else none
  | .list xs, .list ys => if xs.length + ys.length ≤ sizeLine then some (.lst ((xs ++ ys).map .sh)) else none
  | _, _ => none
abbrev rAddS : R2 := fun x y H Q => ∃ i j, x = .str i ∧ y = .str j ∧ i.length + j.length ≤ sizeLine ∧ Q (.str (i ++ j)) H
def rAdd (K : PySem.W.Frag) : R2 := fun x y H Q => rI0 (fun i j => .int (i + j)) x y H Q ∨ (rAddS x y H Q ∨ (rCatA K x y H Q ∨ rCatR K x y H Q))
theorem op_addAll : OpR X (binaryOp .Add) (rAdd X.K) := OpR.or op_add (OpR.or op_add_str (OpR.or op_catA op_catR))
theorem op2_add {K : PySem.W.Frag} : Op2 K (rAdd K) gAdd := by
  intro Hf its F H x y a b c Q s h q
  obtain ⟨Hf', sm, s'⟩ := s.freeze2
  have q' : ∀ v H' Hf2, Same Hf' Hf2 → SX K Hf2 ((v, c) :: its) F H' → Q v H' := fun v H' Hf2 z => q v H' Hf2 (sm.trans z)
  unfold gAdd at h
  generalize fz a = da at *
  generalize fz b = db at *
  have ry := s'.rp
  have rx := s'.drop.rp
  have s2 := s'.drop.drop
  split at h
  · cases h
    have e1 := rp_int rx
    have e2 := rp_int ry
    subst e1 e2
    exact .inl ⟨_, _, rfl, rfl, q' _ _ _ (Same.refl _) (s2.add (.int _))⟩
  · split at h
    · rename_i hz
      cases h
      have e1 := rp_str rx
      have e2 := rp_str ry
      subst e1 e2
      exact .inr (.inl ⟨_, _, rfl, rfl, hz, q' _ _ _ (Same.refl _) (s2.add (.str _))⟩)
    · cases h
  · split at h
    · rename_i hz
      cases h
      obtain ⟨p1, xs, rfl, t1, r1⟩ := rx.sqT
      obtain ⟨p2, ys, rfl, t2, r2⟩ := ry.sqT
      refine .inr (.inr (.inl ⟨p1, p2, xs, ys, rfl, rfl, s'.sub.sqT t1, s'.sub.sqT t2, by rw [r1.len, r2.len]; exact hz, fun e => ?_, fun _ e => ?_, fun e1 e2 p hp => ?_⟩))
      · subst e
        cases r1
        exact q' _ _ _ (Same.refl _) (s2.add ry)
      · subst e
        cases r2
        rw [List.append_nil] at q'
        exact q' _ _ _ (Same.refl _) (s2.add rx)
      · obtain ⟨s3, sm3⟩ := s2.mkTup (r1.append r2) hp
        exact q' _ _ _ sm3 s3
    · cases h
  · split at h
    · rename_i hz
      cases h
      obtain ⟨p1, xs, rfl, t1, r1⟩ := rx.sqL
      obtain ⟨p2, ys, rfl, t2, r2⟩ := ry.sqL
      exact .inr (.inr (.inr ⟨p1, p2, xs, ys, rfl, rfl, s'.sub.sqL t1, s'.sub.sqL t2, by rw [r1.len, r2.len]; exact hz, fun p hp => q' _ _ _ (Same.refl _) (s2.mkLst (r1.append r2) hp)⟩))
    · cases h
  · cases h
theorem ev_add (ha : EvE X W a fa) (hb : EvE X W b fb) : EvE X W (.BinOp a .Add b pos) (eBin gAdd fa fb) := ev_op op_addAll op2_add ha hb
theorem ev_sub (ha : EvE X W a fa) (hb : EvE X W b fb) : EvE X W (.BinOp a .Sub b pos) (eBin (gII (fun _ _ => true) fun i j => .int (i - j)) fa fb) := ev_op op_sub (op2_I0 fun i j => i - j) ha hb
/-! ### * -/
def mulOk (i j : Int) : Bool := decide (-(2 ^ 64) < i ∧ i < 2 ^ 64) || decide (-(2 ^ 64) < j ∧ j < 2 ^ 64) || decide (i.natAbs.log2 + j.natAbs.log2 < 1000000)
theorem op_mulAll : OpR X (binaryOp .Mult) (rI (fun i j => mulOk i j = true) fun i j => .int (i * j)) := by
  intro pins s σ H x y v u Q I rx ry h
  obtain ⟨i, j, rfl, rfl, hc, q⟩ := h
  unfold mulOk at hc
  rw [Bool.or_eq_true, Bool.or_eq_true] at hc
  rcases hc with (hc | hc) | hc
  · exact op_mul pins s σ H _ _ v u Q I rx ry ⟨i, j, rfl, rfl, .inl (of_decide_eq_true hc), q⟩
  · exact op_mul pins s σ H _ _ v u Q I rx ry ⟨i, j, rfl, rfl, .inr (of_decide_eq_true hc), q⟩
  · exact op_mulW pins s σ H _ _ v u Q I rx ry ⟨i, j, rfl, rfl, (show i.natAbs.log2 + j.natAbs.log2 < 1000000 from of_decide_eq_true hc), q⟩
theorem ev_mul (ha : EvE X W a fa) (hb : EvE X W b fb) : EvE X W (.BinOp a .Mult b pos) (eBin (gII mulOk fun i j => .int (i * j)) fa fb) := ev_op op_mulAll (op2_I (fun i j => i * j) fun _ _ h => h) ha hb
theorem ev_mod (ha : EvE X W a fa) (hb : EvE X W b fb) : EvE X W (.BinOp a .Mod b pos) (eBin (gII (fun _ j => decide (0 < j)) fun i j => .int (i % j)) fa fb) := ev_op op_mod (op2_I (fun i j => i % j) fun _ _ h => of_decide_eq_true h) ha hb
def divOk (_ j : Int) : Bool := decide (0 < j) && decide (j.natAbs.log2 < 9000)
theorem ev_fdiv (ha : EvE X W a fa) (hb : EvE X W b fb) : EvE X W (.BinOp a .FloorDiv b pos) (eBin (gII divOk fun i j => .int (i / j)) fa fb) := ev_op op_fdivW (op2_I (fun i j => i / j) fun i j h => by
  unfold divOk at h
  rw [Bool.and_eq_true] at h
  exact ⟨of_decide_eq_true h.1, of_decide_eq_true h.2⟩) ha hb
def powOk (i j : Int) : Bool := decide (0 ≤ j) && decide ((Builtin.Int.intBits i : Int) * j ≤ 2 ^ 27)
theorem op_powW : OpR X (binaryOp .Pow) (rI (fun i j => powOk i j = true) fun i j => .int (i ^ j.toNat)) := opI fun i j _ _ _ _ _ hc q => by
  unfold powOk at hc
  rw [Bool.and_eq_true] at hc
  exact PyProof.Rows.pow_int (of_decide_eq_true hc.1) (of_decide_eq_true hc.2) q
theorem ev_pow (ha : EvE X W a fa) (hb : EvE X W b fb) : EvE X W (.BinOp a .Pow b pos) (eBin (gII powOk fun i j => .int (i ^ j.toNat)) fa fb) := ev_op op_powW (op2_I (fun i j => i ^ j.toNat) fun _ _ h => h) ha hb
def shlOk (i j : Int) : Bool := decide (0 ≤ j ∧ j ≤ 1000000 ∧ i.natAbs < 2 ^ 64)
theorem ev_shl (ha : EvE X W a fa) (hb : EvE X W b fb) : EvE X W (.BinOp a .LShift b pos) (eBin (gII shlOk fun i j => .int (i * 2 ^ j.toNat)) fa fb) := ev_op op_shl (op2_I (fun i j => i * 2 ^ j.toNat) fun i j h => (show 0 ≤ j ∧ j ≤ 1000000 ∧ i.natAbs < 2 ^ 64 from of_decide_eq_true h)) ha hb
theorem ev_band (ha : EvE X W a fa) (hb : EvE X W b fb) : EvE X W (.BinOp a .BitAnd b pos) (eBin (gII (fun _ _ => true) fun i j => .int (Builtin.bitAnd i j)) fa fb) := ev_op op_and (op2_I0 Builtin.bitAnd) ha hb
theorem ev_bor (ha : EvE X W a fa) (hb : EvE X W b fb) : EvE X W (.BinOp a .BitOr b pos) (eBin (gII (fun _ _ => true) fun i j => .int (Builtin.bitOr i j)) fa fb) := ev_op op_or (op2_I0 Builtin.bitOr) ha hb
def gI (f : Int → PyData) (a : OV) : Option OV := match oI a with
  | some i => some (.sh (f i))
  | none => none
theorem op1_I {K : PySem.W.Frag} (g : Int → Int) : Op1 K (rU fun i => .int (g i)) (gI fun i => .int (g i)) := by
  intro Hf its F H x a c Q s h q
  unfold gI at h
  split at h
  · rename_i i hi
    cases h
    obtain rfl := oI_eq hi
    have e := rp_int s.rp
    subst e
    exact ⟨i, rfl, q _ _ _ (Same.refl _) (s.drop.add (.int _))⟩
  · cases h
theorem ev_neg (ha : EvE X W a fa) : EvE X W (.UnaryOp .USub a pos) (eUn (gI fun i => .int (-i)) fa) := ev_un un_neg (op1_I fun i => -i) ha
theorem ev_inv (ha : EvE X W a fa) : EvE X W (.UnaryOp .Invert a pos) (eUn (gI fun i => .int (Builtin.bitNot i)) fa) := ev_un un_inv (op1_I Builtin.bitNot) ha

/-! ### comparisons -/
open PySem.SeqAt in
def gOrd (fi : Int → Int → Bool) (fd : PyData → PyData → Bool) (a b : OV) : Option OV := match fz a, fz b with
  | .int i, .int j => some (.sh (.bool (fi i j)))
  | .tuple xs, .tuple ys => if PySem.W.alike (.tuple xs) (.tuple ys) = true ∧ SeqAt.shaped (.tuple xs) = true ∧ SeqAt.shaped (.tuple ys) = true then some (.sh (.bool (fd (.tuple xs) (.tuple ys)))) else none
  | _, _ => none
abbrev rOrdD (K : PySem.W.Frag) (fd : PyData → PyData → Bool) : R2 := fun x y H Q => ∃ d e, Dp K H x d ∧ Dp K H y e ∧ SeqAt.shaped d = true ∧ SeqAt.shaped e = true ∧ PySem.W.alike d e = true ∧ d ≠ .none ∧ Q (.bl (fd d e)) H
theorem op_ordD {op : CmpOp} {fd : PyData → PyData → Bool} (hu : X.A.units + 65 < cLine)
    (rule : ∀ (s : Shared) (a b : Value) (da db : PyData) (as bs : List Addr) (Q : Value → Shared → Prop) (E : Value → Shared → Prop), Reads s.heap a da as → Reads s.heap b db bs → PySem.W.alike da db = true → da ≠ .none → X.A.units + min da.depth db.depth < cLine → Q (.bool (fd da db)) s → wpAny (model X.prog X.w) X.A (compareOp op a b) Q E s) :
    OpR X (compareOp op) (rOrdD X.K fd) := by
  intro pins s σ H x y v u Q I rx ry h
  obtain ⟨d, e, hd, he, sd, se, al, hn, q⟩ := h
  obtain ⟨as, r1⟩ := Dp.reads I d x v hd rx
  obtain ⟨bs, r2⟩ := Dp.reads I e y u he ry
  exact rule s v u d e as bs _ _ r1 r2 al hn (SeqAt.room_of_shaped sd (by omega)) ⟨.bl _, H, I, rfl, q⟩
abbrev rOrd (K : PySem.W.Frag) (fi : Int → Int → Bool) (fd : PyData → PyData → Bool) : R2 := fun x y H Q => rI0 (fun i j => .bl (fi i j)) x y H Q ∨ rOrdD K fd x y H Q
theorem op2_ord {K : PySem.W.Frag} (fi : Int → Int → Bool) (fd : PyData → PyData → Bool) : Op2 K (rOrd K fi fd) (gOrd fi fd) := by
  intro Hf its F H x y a b c Q s h q
  have ry := s.rdH
  have rx := s.drop.rdH
  have s2 := s.drop.drop
  unfold gOrd at h
  generalize fz a = da at *
  generalize fz b = db at *
  split at h
  · cases h
    have e1 := rp_int rx
    have e2 := rp_int ry
    subst e1 e2
    exact .inl ⟨_, _, rfl, rfl, q _ _ _ (Same.refl _) (s2.add (.bl _))⟩
  · split at h
    · rename_i hc
      cases h
      exact .inr ⟨_, _, rx.dp (SeqAt.canLay_of_shaped hc.2.1), ry.dp (SeqAt.canLay_of_shaped hc.2.2), hc.2.1, hc.2.2, hc.1, (by intro z; cases z), q _ _ _ (Same.refl _) (s2.add (.bl _))⟩
    · cases h
  · cases h
abbrev gLt := gOrd (fun i j => decide (i < j)) PySem.W.dataLt
abbrev gGt := gOrd (fun i j => decide (j < i)) (fun d e => PySem.W.dataLt e d)
abbrev gLe := gOrd (fun i j => decide (i ≤ j)) (fun d e => !PySem.W.dataLt e d)
abbrev gGe := gOrd (fun i j => decide (j ≤ i)) (fun d e => !PySem.W.dataLt d e)
theorem opr_lt {n : Nat} (G : Good X W n) : OpR X (compareOp .Lt) (rOrd X.K (fun i j => decide (i < j)) PySem.W.dataLt) := OpR.or op_lt (op_ordD G.hu fun s a b da db as bs Q E r1 r2 al hn hu q => PySem.W.lt_data r1 r2 al hn hu q)
theorem opr_gt {n : Nat} (G : Good X W n) : OpR X (compareOp .Gt) (rOrd X.K (fun i j => decide (j < i)) (fun d e => PySem.W.dataLt e d)) := OpR.or op_gt (op_ordD G.hu fun s a b da db as bs Q E r1 r2 al hn hu q => PySem.W.gt_data r1 r2 al hn hu q)
theorem opr_le {n : Nat} (G : Good X W n) : OpR X (compareOp .LtE) (rOrd X.K (fun i j => decide (i ≤ j)) (fun d e => !PySem.W.dataLt e d)) := OpR.or op_le (op_ordD G.hu fun s a b da db as bs Q E r1 r2 al hn hu q => PySem.W.le_data r1 r2 al hn hu q)
theorem opr_ge {n : Nat} (G : Good X W n) : OpR X (compareOp .GtE) (rOrd X.K (fun i j => decide (j ≤ i)) (fun d e => !PySem.W.dataLt d e)) := OpR.or op_ge (op_ordD G.hu fun s a b da db as bs Q E r1 r2 al hn hu q => PySem.W.ge_data r1 r2 al hn hu q)
theorem ec_lt {n : Nat} (G : Good X W n) (ha : EvE X W a fa) (hb : EvE X W b fb) : EvC X W .Lt a b (eBin gLt fa fb) := ec_op (opr_lt G) (op2_ord _ _) ha hb
theorem ec_gt {n : Nat} (G : Good X W n) (ha : EvE X W a fa) (hb : EvE X W b fb) : EvC X W .Gt a b (eBin gGt fa fb) := ec_op (opr_gt G) (op2_ord _ _) ha hb
theorem ec_le {n : Nat} (G : Good X W n) (ha : EvE X W a fa) (hb : EvE X W b fb) : EvC X W .LtE a b (eBin gLe fa fb) := ec_op (opr_le G) (op2_ord _ _) ha hb
theorem ec_ge {n : Nat} (G : Good X W n) (ha : EvE X W a fa) (hb : EvE X W b fb) : EvC X W .GtE a b (eBin gGe fa fb) := ec_op (opr_ge G) (op2_ord _ _) ha hb
/-- == and != -/
def gEq (neg : Bool) (a b : OV) : Option OV := if SeqAt.shaped (fz a) = true ∧ SeqAt.shaped (fz b) = true then some (.sh (.bool (neg ^^ PyData.eqv (fz a) (fz b)))) else none
theorem op2_eq {K : PySem.W.Frag} : Op2 K (rEqD K) (gEq false) := by
  intro Hf its F H x y a b c Q s h q
  unfold gEq at h
  split at h
  · rename_i hc
    cases h
    exact ⟨_, _, s.drop.rdH.dp (SeqAt.canLay_of_shaped hc.1), s.rdH.dp (SeqAt.canLay_of_shaped hc.2), hc.1, hc.2, q _ _ _ (Same.refl _) (s.drop.drop.add (by rw [Bool.false_xor]; exact .bl _))⟩
  · cases h
theorem op2_ne {K : PySem.W.Frag} : Op2 K (rNeD K) (gEq true) := by
  intro Hf its F H x y a b c Q s h q
  unfold gEq at h
  split at h
  · rename_i hc
    cases h
    exact ⟨_, _, s.drop.rdH.dp (SeqAt.canLay_of_shaped hc.1), s.rdH.dp (SeqAt.canLay_of_shaped hc.2), hc.1, hc.2, q _ _ _ (Same.refl _) (s.drop.drop.add (by rw [Bool.true_xor]; exact .bl _))⟩
  · cases h
theorem opr_eq {n : Nat} (G : Good X W n) : OpR X (compareOp .Eq) (rEqD X.K) := op_eqD (by have := G.hu; omega)
theorem opr_ne {n : Nat} (G : Good X W n) : OpR X (compareOp .NotEq) (rNeD X.K) := op_neD (by have := G.hu; omega)
theorem ec_eq {n : Nat} (G : Good X W n) (ha : EvE X W a fa) (hb : EvE X W b fb) : EvC X W .Eq a b (eBin (gEq false) fa fb) := ec_op (opr_eq G) op2_eq ha hb
theorem ec_ne {n : Nat} (G : Good X W n) (ha : EvE X W a fa) (hb : EvE X W b fb) : EvC X W .NotEq a b (eBin (gEq true) fa fb) := ec_op (opr_ne G) op2_ne ha hb
/-- is None, is not None -/
def isNonO : OV → Bool
  | .sh .none => true
  | _ => false
def gIs (neg : Bool) (a : OV) : Option OV := some (.sh (.bool (neg ^^ isNonO a)))
theorem nonV {K : PySem.W.Frag} {Hf : Hp} {x : V} {a : OV} {bs : Bs} (h : Own K Hf x a bs) : decide (x = .non) = isNonO a := by
  cases h with
  | sh r => cases r <;> rfl
  | lst _ => rfl
  | dk _ _ _ => rfl
  | dt _ _ _ => rfl
theorem SX.own {K : PySem.W.Frag} {Hf H : Hp} {its : Its} {F : Bs} {x : V} {a : OV} (s : SX K Hf ((x, a) :: its) F H) : ∃ bs, Own K Hf x a bs := by
  obtain ⟨⟨bs, h, _⟩, _⟩ := s
  cases h with
  | cons h _ => exact ⟨_, h⟩
theorem ec_is {j pos'} (ha : EvE X W a fa) : EvC X W .Is a (.Constant .none j pos') (eUn (gIs false) fa) := pc_w (pc_isN ha) fun σ H Q ⟨Hf, T, ρ, F, s, h⟩ =>
  ⟨Hf, T, ρ, F, s, PostE.bind h fun o ρ1 x H1 Hf1 sm s1 h1 => by
    obtain ⟨its, hs, s2⟩ := s1.ex
    obtain ⟨bs, ho⟩ := SX.own (its := T ++ its) s2
    have e := nonV ho
    have h2 := h1 (.bl (decide (x = .non))) H1 Hf1 (Same.refl _)
    refine h2 ⟨its, hs, ?_⟩
    have := SX.drop (its := T ++ its) s2
    refine SX.add (its := T ++ its) this ?_
    rw [e, Bool.false_xor]; exact .bl _⟩
theorem ec_isnt {j pos'} (ha : EvE X W a fa) : EvC X W .IsNot a (.Constant .none j pos') (eUn (gIs true) fa) := pc_w (pc_notN ha) fun σ H Q ⟨Hf, T, ρ, F, s, h⟩ =>
  ⟨Hf, T, ρ, F, s, PostE.bind h fun o ρ1 x H1 Hf1 sm s1 h1 => by
    obtain ⟨its, hs, s2⟩ := s1.ex
    obtain ⟨bs, ho⟩ := SX.own (its := T ++ its) s2
    have e := nonV ho
    have h2 := h1 (.bl (!decide (x = .non))) H1 Hf1 (Same.refl _)
    refine h2 ⟨its, hs, ?_⟩
    have := SX.drop (its := T ++ its) s2
    refine SX.add (its := T ++ its) this ?_
    rw [e, Bool.true_xor]; exact .bl _⟩
end
end Ev
namespace Ev
open PySem PySem.Spec L2
open PyProof.Rows hiding St

section
variable {X : Cx} {W : WX} {e a b c : Expr} {es rest : List Expr} {f fa fb fc : Rho → Re} {ta tb : Rho → ReB} {fl : Rho → ReL} {pos : Pos} {n : Nat}
/-! ### tests -/
def toB (o : OV) (ρ : Rho) : ReB := match o with
  | .sh (.bool b) => .ok b ρ
  | _ => .stk
def eTest (f : Rho → Re) (ρ : Rho) : ReB := bindEB (f ρ) toB
theorem test_post {Hf : Hp} {T : Its} {ρ : Rho} {F : Bs} {σ : St} {H : Hp} {Q : Bool → Hp → Prop} (s : SI X.K Hf T ρ F σ H) (h : PostB X W Hf T F σ (eTest f ρ) Q) : tE X W f σ H fun x H1 => ∃ c, x = .bl c ∧ Q c H1 :=
  ⟨Hf, T, ρ, F, s, PostE.bindEB h fun o ρ1 x H1 Hf1 sm s1 h1 => by
    cases o with
    | sh d =>
      cases d with
      | bool k =>
        have e := rp_bl s1.rp
        subst e
        exact ⟨k, rfl, h1 H1 Hf1 (Same.refl _) s1.drop⟩
      | _ => exact h1.elim
    | _ => exact h1.elim⟩
theorem ee_cmp {op : CmpOp} (h : EvC X W op a b f) (h1 : behindInMarks op b = false := by first | exact nobehind _ (by decide) (by decide) | rfl) : EvE X W (.Compare a [op] [b] pos) f := pe_cmp h h1
theorem et_cmp {op : CmpOp} (h : EvC X W op a b f) (h1 : behindInMarks op b = false := by first | exact nobehind _ (by decide) (by decide) | rfl) : EvT X W (.Compare a [op] [b] pos) (eTest f) :=
  pt_w (pt_cmp h h1) fun σ H Q ⟨Hf, T, ρ, F, s, h⟩ => test_post s h
theorem et_val (h : EvE X W e f) (he : ∀ whole, isTrue e X.env whole = (do let v ← whole; standAt e.pos; holding [v] (truthy v)) := by intro _; rfl) : EvT X W e (eTest f) :=
  pt_w (pt_val h he) fun σ H Q ⟨Hf, T, ρ, F, s, h⟩ => test_post s h
def bNot (ta : Rho → ReB) (ρ : Rho) : ReB := bindBB (ta ρ) fun b ρ1 => .ok (!b) ρ1
theorem et_not (h : EvT X W a ta) : EvT X W (.UnaryOp .Not a pos) (bNot ta) := pt_w (pt_not h) fun σ H Q ⟨Hf, T, ρ, F, s, h⟩ =>
  ⟨Hf, T, ρ, F, s, PostB.bindBB h fun b ρ1 H1 Hf1 sm s1 h1 => h1 H1 Hf1 (Same.refl _) s1⟩
def EvW (X : Cx) (W : WX) (e : Expr) (f : Rho → ReB) : Prop := PW X e (tT X W f)
theorem et_w (h : EvW X W e ta) : EvT X W e ta := PW.pt h
theorem pw_w {X : Cx} {e : Expr} {t t' : TT} (h : PW X e t) (hw : ∀ σ H Q, t' σ H Q → t σ H Q) : PW X e t' := ⟨fun wh pins s σ H Q I h' => h.run wh pins s σ H Q I (hw σ H Q h')⟩
def bAnd (ta tb : Rho → ReB) (ρ : Rho) : ReB := bindBB (ta ρ) fun b ρ1 => if b = true then tb ρ1 else .ok false ρ1
def bOr (ta tb : Rho → ReB) (ρ : Rho) : ReB := bindBB (ta ρ) fun b ρ1 => if b = true then .ok true ρ1 else tb ρ1
theorem ew_and1 (h : EvT X W a ta) : EvW X W (.BoolOp .And [a] pos) ta := pw_and1 h
theorem ew_or1 (h : EvT X W a ta) : EvW X W (.BoolOp .Or [a] pos) ta := pw_or1 h
theorem ew_and (h : EvT X W a ta) (h2 : EvW X W (.BoolOp .And (b :: rest) pos) tb) : EvW X W (.BoolOp .And (a :: b :: rest) pos) (bAnd ta tb) := pw_w (pw_and h h2) fun σ H Q ⟨Hf, T, ρ, F, s, h⟩ =>
  ⟨Hf, T, ρ, F, s, PostB.bindBB h fun b ρ1 H1 Hf1 sm s1 h1 => by
    cases b with
    | true => rw [if_pos rfl]; exact ⟨Hf1, T, ρ1, F, s1, h1⟩
    | false => rw [if_neg Bool.false_ne_true]; exact h1 H1 Hf1 (Same.refl _) s1⟩
theorem ew_or (h : EvT X W a ta) (h2 : EvW X W (.BoolOp .Or (b :: rest) pos) tb) : EvW X W (.BoolOp .Or (a :: b :: rest) pos) (bOr ta tb) := pw_w (pw_or h h2) fun σ H Q ⟨Hf, T, ρ, F, s, h⟩ =>
  ⟨Hf, T, ρ, F, s, PostB.bindBB h fun b ρ1 H1 Hf1 sm s1 h1 => by
    cases b with
    | true => rw [if_pos rfl]; exact h1 H1 Hf1 (Same.refl _) s1
    | false => rw [if_neg Bool.false_ne_true]; exact ⟨Hf1, T, ρ1, F, s1, h1⟩⟩
/-! .. as values -/
def gNot (a : OV) : Option OV := match a with
  | .sh (.bool b) => some (.sh (.bool (!b)))
  | _ => none
theorem ev_not (h : EvE X W a fa) : EvE X W (.UnaryOp .Not a pos) (eUn gNot fa) := pe_w (pe_not h) fun σ H Q ⟨Hf, T, ρ, F, s, h⟩ =>
  ⟨Hf, T, ρ, F, s, PostE.bind h fun o ρ1 x H1 Hf1 sm s1 h1 => by
    cases o with
    | sh d =>
      cases d with
      | bool k =>
        have e := rp_bl s1.rp
        subst e
        exact ⟨k, rfl, h1 _ H1 Hf1 (Same.refl _) (s1.drop.add (.bl _))⟩
      | _ => exact h1.elim
    | _ => exact h1.elim⟩
def eAnd (fa fb : Rho → Re) (ρ : Rho) : Re := bindE (fa ρ) fun o ρ1 => match o with
  | .sh (.bool true) => fb ρ1
  | .sh (.bool false) => .ok (.sh (.bool false)) ρ1
  | _ => .stk
def eOr (fa fb : Rho → Re) (ρ : Rho) : Re := bindE (fa ρ) fun o ρ1 => match o with
  | .sh (.bool true) => .ok (.sh (.bool true)) ρ1
  | .sh (.bool false) => fb ρ1
  | _ => .stk
theorem ev_one {op} (h : EvE X W a f) : EvE X W (.BoolOp op [a] pos) f := pe_one h
theorem ev_and (h : EvE X W a fa) (h2 : EvE X W (.BoolOp .And (b :: rest) pos) fb) : EvE X W (.BoolOp .And (a :: b :: rest) pos) (eAnd fa fb) := pe_w (pe_and h h2) fun σ H Q ⟨Hf, T, ρ, F, s, h⟩ =>
  ⟨Hf, T, ρ, F, s, PostE.bind h fun o ρ1 x H1 Hf1 sm s1 h1 => by
    cases o with
    | sh d =>
      cases d with
      | bool k =>
        have e := rp_bl s1.rp
        subst e
        cases k with
        | true => exact ⟨true, rfl, by rw [if_pos rfl]; exact ⟨Hf1, T, ρ1, F, s1.drop, h1⟩⟩
        | false => exact ⟨false, rfl, by rw [if_neg Bool.false_ne_true]; exact h1 _ H1 Hf1 (Same.refl _) s1⟩
      | _ => exact h1.elim
    | _ => exact h1.elim⟩
theorem ev_or (h : EvE X W a fa) (h2 : EvE X W (.BoolOp .Or (b :: rest) pos) fb) : EvE X W (.BoolOp .Or (a :: b :: rest) pos) (eOr fa fb) := pe_w (pe_or h h2) fun σ H Q ⟨Hf, T, ρ, F, s, h⟩ =>
  ⟨Hf, T, ρ, F, s, PostE.bind h fun o ρ1 x H1 Hf1 sm s1 h1 => by
    cases o with
    | sh d =>
      cases d with
      | bool k =>
        have e := rp_bl s1.rp
        subst e
        cases k with
        | true => exact ⟨true, rfl, by rw [if_pos rfl]; exact h1 _ H1 Hf1 (Same.refl _) s1⟩
        | false => exact ⟨false, rfl, by rw [if_neg Bool.false_ne_true]; exact ⟨Hf1, T, ρ1, F, s1.drop, h1⟩⟩
      | _ => exact h1.elim
    | _ => exact h1.elim⟩
def eIf (tc : Rho → ReB) (fa fb : Rho → Re) (ρ : Rho) : Re := bindB (tc ρ) fun k ρ1 => if k = true then fa ρ1 else fb ρ1
theorem ev_if {tc : Rho → ReB} (hc : EvT X W c tc) (ha : EvE X W a fa) (hb : EvE X W b fb) : EvE X W (.IfExp c a b pos) (eIf tc fa fb) := pe_w (pe_ifExp hc ha hb) fun σ H Q ⟨Hf, T, ρ, F, s, h⟩ =>
  ⟨Hf, T, ρ, F, s, PostB.bind h fun k ρ1 H1 Hf1 sm s1 h1 => by
    cases k with
    | true => rw [if_pos rfl]; exact ⟨Hf1, T, ρ1, F, s1, h1⟩
    | false => rw [if_neg Bool.false_ne_true]; exact ⟨Hf1, T, ρ1, F, s1, h1⟩⟩
/-! ### chains -/
def eChain (g g' : OV → OV → Option OV) (fa fb fc : Rho → Re) (ρ : Rho) : Re := bindE (fa ρ) fun x ρ1 => bindE (fb ρ1) fun y ρ2 => match g x y with
  | some (.sh (.bool true)) => bindE (fc ρ2) fun z ρ3 => ofO (g' y z) ρ3
  | some (.sh (.bool false)) => .ok (.sh (.bool false)) ρ2
  | _ => .stk
/-- what is asked of the first link: its answer leaves the operands -/
theorem chain_post {r r' : R2} {g g' : OV → OV → Option OV} (ho : Op2 X.K r g) (ho' : Op2 X.K r' g') {σ : St} {H : Hp} {Q : VK} {Hf : Hp} {T : Its} {ρ : Rho} {F : Bs} (hg : ∀ x y o, g x y = some o → ∃ d e, x = .sh d ∧ y = .sh e)
    (s : SI X.K Hf T ρ F σ H) (h : PostE X W Hf T F σ (eChain g g' fa fb fc ρ) Q) : tChain r r' (tE X W fa) (tE X W fb) (tE X W fc) σ H Q := by
  refine ⟨Hf, T, ρ, F, s, PostE.bind h fun x ρ1 v H1 Hf1 sm1 s1 h1 => ⟨Hf1, (v, x) :: T, ρ1, F, s1, PostE.bind h1 fun y ρ2 u H2 Hf2 sm2 s2 h2 => ?_⟩⟩
  cases q : g x y with
  | none => simp only [q] at h2; exact h2.elim
  | some o =>
    obtain ⟨d, e, rfl, rfl⟩ := hg x y o q
    have ry := s2.rp
    have rx := s2.drop.rp
    obtain ⟨its, hs, s3⟩ := s2.ex
    refine ho Hf2 (T ++ its) F H2 v u _ _ o _ s3 q fun z H3 Hf3 sm3 s4 => ?_
    have s5 : SI X.K Hf3 ((z, o) :: T) ρ2 F σ H3 := ⟨its, hs, s4⟩
    cases o with
    | sh dd =>
      cases dd with
      | bool k =>
        have ez := rp_bl s5.rp
        subst ez
        simp only [q] at h2
        cases k with
        | true =>
          refine ⟨true, rfl, ?_⟩
          rw [if_pos rfl]
          refine ⟨Hf3, (u, .sh e) :: T, ρ2, F, s5.drop.add (ry.mono (.of sm3)), PostE.bind (PostE.mono sm3 h2) fun z ρ3 w H4 Hf4 sm4 s6 h6 => ?_⟩
          exact op_post ho' s6 h6
        | false =>
          refine ⟨false, rfl, ?_⟩
          rw [if_neg Bool.false_ne_true]
          exact h2 _ H3 Hf3 sm3 s5
      | _ => simp only [q] at h2; exact h2.elim
    | _ => simp only [q] at h2; exact h2.elim
theorem gOrd_sh {fi : Int → Int → Bool} {fd : PyData → PyData → Bool} : ∀ x y o, gOrd fi fd x y = some o → (∃ d, x = .sh d) ∧ ∃ e, y = .sh e := by
  intro x y o h
  unfold gOrd at h
  constructor
  · cases x with
    | sh d => exact ⟨d, rfl⟩
    | _ => simp [fz] at h
  · cases y with
    | sh d => exact ⟨d, rfl⟩
    | _ => simp [fz] at h
theorem gOrd_sh2 {fi : Int → Int → Bool} {fd : PyData → PyData → Bool} : ∀ x y o, gOrd fi fd x y = some o → ∃ d e, x = .sh d ∧ y = .sh e := fun x y o h => by
  obtain ⟨⟨d, h1⟩, e, h2⟩ := gOrd_sh x y o h
  exact ⟨d, e, h1, h2⟩
theorem ev_chain {op op' : CmpOp} {r r' : R2} {g g' : OV → OV → Option OV} (hr : OpR X (compareOp op) r) (hr' : OpR X (compareOp op') r') (ho : Op2 X.K r g) (ho' : Op2 X.K r' g') (hg : ∀ x y o, g x y = some o → ∃ d e, x = .sh d ∧ y = .sh e)
    (ha : EvE X W a fa) (hb : EvE X W b fb) (hc : EvE X W c fc) (hm : lastMarks [op, op'] [b, c] = false := by with_unfolding_all rfl) : EvE X W (.Compare a [op, op'] [b, c] pos) (eChain g g' fa fb fc) :=
  pe_w (pe_chain hr hr' ha hb hc hm) fun σ H Q ⟨Hf, T, ρ, F, s, h⟩ => chain_post ho ho' hg s h
theorem et_chain {op op' : CmpOp} {r r' : R2} {g g' : OV → OV → Option OV} (hr : OpR X (compareOp op) r) (hr' : OpR X (compareOp op') r') (ho : Op2 X.K r g) (ho' : Op2 X.K r' g') (hg : ∀ x y o, g x y = some o → ∃ d e, x = .sh d ∧ y = .sh e)
    (ha : EvE X W a fa) (hb : EvE X W b fb) (hc : EvE X W c fc) (hm : lastMarks [op, op'] [b, c] = false := by with_unfolding_all rfl) : EvT X W (.Compare a [op, op'] [b, c] pos) (eTest (eChain g g' fa fb fc)) :=
  pt_w (pt_chain hr hr' ha hb hc hm) fun σ H Q ⟨Hf, T, ρ, F, s, h⟩ => by
    have z := test_post (f := eChain g g' fa fb fc) s h
    obtain ⟨Hf', T', ρ', F', s', h'⟩ := z
    exact chain_post ho ho' hg s' h'
/-- a <= b < c, a <= b <= c -/
theorem ev_lele (G : Good X W n) (ha : EvE X W a fa) (hb : EvE X W b fb) (hc : EvE X W c fc) (hm : lastMarks [.LtE, .LtE] [b, c] = false := by with_unfolding_all rfl) : EvE X W (.Compare a [.LtE, .LtE] [b, c] pos) (eChain gLe gLe fa fb fc) := ev_chain (opr_le G) (opr_le G) (op2_ord _ _) (op2_ord _ _) gOrd_sh2 ha hb hc hm
theorem ev_lelt (G : Good X W n) (ha : EvE X W a fa) (hb : EvE X W b fb) (hc : EvE X W c fc) (hm : lastMarks [.LtE, .Lt] [b, c] = false := by with_unfolding_all rfl) : EvE X W (.Compare a [.LtE, .Lt] [b, c] pos) (eChain gLe gLt fa fb fc) := ev_chain (opr_le G) (opr_lt G) (op2_ord _ _) (op2_ord _ _) gOrd_sh2 ha hb hc hm
theorem et_lele (G : Good X W n) (ha : EvE X W a fa) (hb : EvE X W b fb) (hc : EvE X W c fc) (hm : lastMarks [.LtE, .LtE] [b, c] = false := by with_unfolding_all rfl) : EvT X W (.Compare a [.LtE, .LtE] [b, c] pos) (eTest (eChain gLe gLe fa fb fc)) := et_chain (opr_le G) (opr_le G) (op2_ord _ _) (op2_ord _ _) gOrd_sh2 ha hb hc hm
theorem et_lelt (G : Good X W n) (ha : EvE X W a fa) (hb : EvE X W b fb) (hc : EvE X W c fc) (hm : lastMarks [.LtE, .Lt] [b, c] = false := by with_unfolding_all rfl) : EvT X W (.Compare a [.LtE, .Lt] [b, c] pos) (eTest (eChain gLe gLt fa fb fc)) := et_chain (opr_le G) (opr_lt G) (op2_ord _ _) (op2_ord _ _) gOrd_sh2 ha hb hc hm

/-! ### lists of arguments -/
def lNil (ρ : Rho) : ReL := .ok [] ρ
def lCons (f : Rho → Re) (g : Rho → ReL) (ρ : Rho) : ReL := bindEL (f ρ) fun o ρ1 => bindLL (g ρ1) fun os ρ2 => .ok (o :: os) ρ2
theorem el_nil : EvL X W [] lNil := pa_w pa_nil fun σ H Q ⟨Hf, T, ρ, F, s, h⟩ => h [] H Hf rfl (Same.refl _) s
theorem el_cons (he : EvE X W e f) (hr : EvL X W es fl) (hs : starEach (e :: es) X.env = (false, eval e X.env) :: starEach es X.env := by rfl) : EvL X W (e :: es) (lCons f fl) := pa_w (pa_cons he hr hs) fun σ H Q ⟨Hf, T, ρ, F, s, h⟩ =>
  ⟨Hf, T, ρ, F, s, PostE.bindEL h fun o ρ1 v H1 Hf1 sm s1 h1 => ⟨Hf1, (v, o) :: T, ρ1, F, s1, PostL.bindLL h1 fun os ρ2 vs H2 Hf2 l sm2 s2 h2 =>
    h2 (v :: vs) H2 Hf2 (by simp [l]) (Same.refl _) (s2.perm (by simp only [List.zip_cons_cons, List.cons_append]; exact List.perm_middle))⟩⟩
section
variable {K : PySem.W.Frag} {Hf H : Hp} {its : Its} {F : Bs}
theorem SX.freezeAll : ∀ (vs : List V) (os : List OV) (Hf : Hp), vs.length = os.length → SX K Hf (vs.zip os ++ its) F H → ∃ Hf', Same Hf Hf' ∧ RpAll K Hf' vs (os.map fz) ∧ SX K Hf' its F H
  | [], [], Hf, _, s => ⟨Hf, Same.refl _, .nil, s⟩
  | v :: vs, o :: os, Hf, l, s => by
    obtain ⟨H1, sm1, s1⟩ := SX.freeze (its := vs.zip os ++ its) s
    obtain ⟨H2, sm2, r, s2⟩ := SX.freezeAll vs os H1 (by simpa using l) s1.drop
    exact ⟨H2, sm1.trans sm2, .cons (s1.rp.mono (.of sm2)) r, s2⟩
theorem SI.freezeAll {vs : List V} {os : List OV} {T : Its} {ρ : Rho} {σ : St} (l : vs.length = os.length) (s : SI K Hf (vs.zip os ++ T) ρ F σ H) : ∃ Hf', Same Hf Hf' ∧ RpAll K Hf' vs (os.map fz) ∧ SI K Hf' T ρ F σ H := by
  obtain ⟨its, hs, s⟩ := s.ex
  rw [List.append_assoc] at s
  obtain ⟨Hf', sm, r, s'⟩ := SX.freezeAll vs os Hf l s
  exact ⟨Hf', sm, r, its, hs, s'⟩
end
/-! ### displays -/
def eTup (fl : Rho → ReL) (ρ : Rho) : Re := bindL (fl ρ) fun os ρ1 => if os.length ≤ sizeLine then .ok (.sh (.tuple (os.map fz))) ρ1 else .stk
def eLst (fl : Rho → ReL) (ρ : Rho) : Re := bindL (fl ρ) fun os ρ1 => if os.length ≤ sizeLine then .ok (.lst os) ρ1 else .stk
theorem ev_tup {x1} (h : EvL X W es fl) : EvE X W (.Tuple es x1 pos) (eTup fl) := pe_w (pe_tup h) fun σ H Q ⟨Hf, T, ρ, F, s, h⟩ =>
  ⟨Hf, T, ρ, F, s, PostL.bind h fun os ρ1 vs H1 Hf1 l sm s1 h1 => by
    by_cases hz : os.length ≤ sizeLine
    · rw [if_pos hz] at h1
      refine ⟨by rw [l]; exact hz, fun p hp => ?_⟩
      obtain ⟨Hf2, sm2, r, s2⟩ := s1.freezeAll l
      obtain ⟨its, hs, s3⟩ := s2.ex
      obtain ⟨s4, sm3⟩ := s3.mkTup r hp
      exact h1 _ _ _ (sm2.trans sm3) ⟨its, hs, s4⟩
    · rw [if_neg hz] at h1; exact h1.elim⟩
theorem ev_lst (h : EvL X W es fl) : EvE X W (.List es pos) (eLst fl) := pe_w (pe_lst h) fun σ H Q ⟨Hf, T, ρ, F, s, h⟩ =>
  ⟨Hf, T, ρ, F, s, PostL.bind h fun os ρ1 vs H1 Hf1 l sm s1 h1 => by
    by_cases hz : os.length ≤ sizeLine
    · rw [if_pos hz] at h1
      refine ⟨by rw [l]; exact hz, fun p hp => ?_⟩
      obtain ⟨its, hs, s3⟩ := s1.ex
      rw [List.append_assoc] at s3
      have s4 := s3.newOwn (u := .lst vs) (o := .lst os) hp fun bs hb => .lst (OwnI.lst l hb)
      exact h1 _ _ _ (Same.refl _) ⟨its, hs, s4⟩
    · rw [if_neg hz] at h1; exact h1.elim⟩
end
end Ev
namespace Ev
open PySem PySem.Spec L2
open PyProof.Rows hiding St

/-! ### defs -/
def PostP (K : PySem.W.Frag) (mg : Str → Option Value) (Hf : Hp) (F : Bs) (r : Rv) (Q : VK) (E : XK) : Prop :=
  match r with
  | .ok o => ∀ v H' Hf', Same Hf Hf' → SX K Hf' [(v, o)] F H' → Q v H'
  | .exc e => ∀ H' Hf' cls d, Same Hf Hf' → SX K Hf' [] F H' → ExnIs mg K Hf' H' e cls d → E cls d H'
  | .stk => False
/-- the promise of a def that computes g of its arguments' data -/
def spP (K : PySem.W.Frag) (mg : Str → Option Value) (n : Nat) (g : List PyData → Rv) : Sp := fun vs H Q E =>
  ∃ Hf ds F, vs.length = n ∧ RpAll K Hf vs ds ∧ SX K Hf [] F H ∧ PostP K mg Hf F (g ds) Q E
/-- x is a def of the module that computes g -/
structure FnT (P : Program) (w : World) (K : PySem.W.Frag) (mg : Str → Option Value) (base : Heap) (x : Str) (k n : Nat) (g : List PyData → Rv) : Prop where
  ex : ∃ (f : Addr) (fd : FuncData) (ps : List Str), mg x = some (.ref f) ∧ PySem.W.keepIn K (.ref f) = true ∧ Binds K fd ps [] ∧ FnOk P w K mg base (L2.CX P w) k f fd ps (spP K mg n g)

def ofRv (r : Rv) (ρ : Rho) : Re := match r with
  | .ok o => .ok o ρ
  | .exc e => .exc e ρ
  | .stk => .stk
def eCall (g : List PyData → Rv) (fl : Rho → ReL) (ρ : Rho) : Re := bindL (fl ρ) fun os ρ1 => ofRv (g (os.map fz)) ρ1
section
variable {X : Cx} {W : WX} {e a b c : Expr} {es rest : List Expr} {f fa fb fc : Rho → Re} {ta tb : Rho → ReB} {fl : Rho → ReL} {p pos : Pos} {n m k : Nat} {x : Str} {g : List PyData → Rv}
theorem call_post {Hf : Hp} {T : Its} {ρ : Rho} {F : Bs} {σ : St} {H : Hp} {Q : VK} {vs : List V} {os : List OV} (hn : os.length = n) (l : vs.length = os.length) (s : SI X.K Hf (vs.zip os ++ T) ρ F σ H) (h : PostE X W Hf T F σ (ofRv (g (os.map fz)) ρ) Q) :
    spP X.K X.mg n g vs H Q (WE W σ) := by
  obtain ⟨Hf1, sm, r, s1⟩ := s.freezeAll l
  obtain ⟨bs, s2, back⟩ := SI.framed (A := []) (B := T) s1
  refine ⟨Hf1, os.map fz, bs ++ F, by rw [l, hn], r, s2, ?_⟩
  cases q : g (os.map fz) with
  | ok o =>
    rw [q] at h
    exact fun v H' Hf' sm' s' => h v H' Hf' (sm.trans sm') (back Hf' H' [(v, o)] sm' s')
  | exc e =>
    rw [q] at h
    exact fun H' Hf' cls d sm' s' x => h H' Hf' cls d (sm.trans sm') (back Hf' H' [] sm' s').dropT x
  | stk => rw [q] at h; exact h
/-- f(e, ..) -/
theorem ev_call (G : Good X W m) (Fn : FnT X.prog X.w X.K X.mg X.base x k n g) (hk : k ≤ m) (hg : Gl X x) (hl : EvL X W (e :: es) fl) (hn : (e :: es).length = n := by rfl) (hdb : (x == ("__debug__" : Str)) = false := by decide)
    (he : starEach (e :: es) X.env = (false, eval e X.env) :: starEach es X.env := by rfl) (hpl : (backTo pos (starEach es X.env)).any (·.1) = false := by rfl)
    (hfl : ∀ ρ os ρ', fl ρ = .ok os ρ' → os.length = (e :: es).length) : EvE X W (.Call (.Name x p) (e :: es) [] pos) (eCall g fl) := by
  obtain ⟨f, fd, ps, hm, kp, hb, F⟩ := Fn.ex
  refine pe_w (pe_callSD F (G.hr.mono hk) hg hm kp hb .nil (fun σ => passAt G.tk σ) hl hdb he hpl) fun σ H Q ⟨Hf, T, ρ, F, s, h⟩ => ?_
  refine ⟨Hf, T, ρ, F, s, ?_⟩
  unfold eCall at h
  cases q : fl ρ with
  | ok os ρ1 =>
    rw [q] at h
    intro vs H1 Hf1 l sm s1
    have := call_post (Q := Q) (by rw [hfl ρ os ρ1 q, hn]) l s1 (PostE.mono sm h)
    simpa using this
  | exc e ρ1 => rw [q] at h; exact h
  | stk => rw [q] at h; exact h
theorem ll_nil : ∀ ρ os ρ', lNil ρ = .ok os ρ' → os.length = 0 := fun ρ os ρ' h => by unfold lNil at h; cases h; rfl
theorem ll_cons {k : Nat} (h : ∀ ρ os ρ', fl ρ = .ok os ρ' → os.length = k) : ∀ ρ os ρ', lCons f fl ρ = .ok os ρ' → os.length = k + 1 := fun ρ os ρ' q => by
  unfold lCons bindEL at q
  cases q1 : f ρ with
  | ok o ρ1 =>
    simp only [q1, bindLL] at q
    cases q2 : fl ρ1 with
    | ok os2 ρ2 =>
      simp only [q2] at q
      cases q
      simp [h _ _ _ q2]
    | exc e ρ2 => simp only [q2] at q; cases q
    | stk => simp only [q2] at q; cases q
  | exc e ρ1 => simp only [q1] at q; cases q
  | stk => simp only [q1] at q; cases q

/-- a def's body at its arguments -/
def runP (m : Nat) (body : Rho → Out) (ds : List PyData) : Rv := match body (ds.map (fun d => some (.sh d)) ++ List.replicate (m - ds.length) none) with
  | .next _ => .ok (.sh .none)
  | .ret o _ => .ok o
  | .exc e _ => .exc e
  | _ => .stk
theorem slots_start : ∀ {vs : List V} {ds : List PyData} (k : Nat), vs.length = ds.length → Slots (vs.map some ++ List.replicate k none) (ds.map (fun d => some (.sh d)) ++ List.replicate k none) (vs.zip (ds.map .sh))
  | [], [], k, _ => by
    induction k with
    | zero => exact .nil
    | succ k ih => exact .no ih
  | v :: vs, d :: ds, k, l => .yes (slots_start k (by simpa using l))
theorem own_args {K : PySem.W.Frag} {Hf : Hp} : ∀ {vs : List V} {ds : List PyData}, RpAll K Hf vs ds → OwnI K Hf (vs.zip (ds.map .sh)) []
  | _, _, .nil => .nil
  | _, _, .cons h r => OwnI.cons (b1 := []) (b2 := []) (.sh h) (own_args r)
theorem SX.addAll {K : PySem.W.Frag} {Hf H : Hp} {F : Bs} {vs : List V} {ds : List PyData} (s : SX K Hf [] F H) (r : RpAll K Hf vs ds) : SX K Hf (vs.zip (ds.map .sh)) F H := by
  obtain ⟨⟨bs, h, n, a⟩, e⟩ := s
  cases h
  exact ⟨⟨[], own_args r, n, a⟩, e⟩
section
variable {P : Program} {w : World} {K : PySem.W.Frag} {mg : Str → Option Value} {base : Heap}
theorem fnT_of {qual : Str} {st : Stmt} {f : Addr} {fd : FuncData} {N ps : List Str} {k n : Nat} {body : Rho → Out} (F : Fun K x qual st f fd) (S : FnScope N ps (defScope st)) (hm : mg x = some (.ref f)) (hb : Binds K fd ps []) (hn : ps.length = n)
    (hbody : ∀ (cdv : Value) (A : Around) (outer : List Env) (s : Shared) (H : Hp) (E : XK), Good (cxOf (L2.CX P w) P w K mg base N qual (defScope st) f cdv A outer s H E) (fun cls d _ H => E cls d H) k →
      EvB (cxOf (L2.CX P w) P w K mg base N qual (defScope st) f cdv A outer s H E) (fun cls d _ H => E cls d H) (defBody st) body) :
    FnT P w K mg base x (k + 1) n (runP N.length body) := by
  refine ⟨f, fd, ps, hm, F.kp, hb, F.okX S (fun vs H Q E h => ?_) fun cdv A outer s H vs Q E hr h => ?_⟩
  · obtain ⟨Hf, ds, Fr, l, _⟩ := h
    rw [l, hn]
  · obtain ⟨Hf, ds, Fr, l, r, sx, h⟩ := h
    refine ⟨_, hbody cdv A outer s H E ⟨S.nd, rfl, takes_of rfl rfl rfl rfl, passes_of rfl, hr⟩, Hf, ds.map (fun d => some (.sh d)) ++ List.replicate (N.length - ds.length) none, Fr, ⟨vs.zip (ds.map .sh), ?_, ?_⟩, ?_⟩
    · have := slots_start (N.length - ds.length) r.len
      unfold L2.start
      rw [r.len]
      exact this
    · exact sx.addAll r
    · unfold runP at h
      generalize body (ds.map (fun d => some (.sh d)) ++ List.replicate (N.length - ds.length) none) = out at h
      cases out with
      | next ρ' => exact fun σ' H' Hf' sm s' => h .non H' Hf' sm (by
          obtain ⟨its, hs, s2⟩ := s'.ex
          have s3 : SX K Hf' [] Fr H' := SX.tail (A := its) (B := []) (show SX K Hf' (its ++ []) Fr H' by rw [List.append_nil]; exact s2)
          exact s3.add .non)
      | ret o ρ' => exact fun v σ' H' Hf' sm s' => h v H' Hf' sm (by
          obtain ⟨its, hs, s2⟩ := s'.ex
          exact SX.head (A := [(v, o)]) s2)
      | brk ρ' => exact h.elim
      | cnt ρ' => exact h.elim
      | exc e ρ' => exact fun σ' H' Hf' cls d sm s' x => h H' Hf' cls d sm (by
          obtain ⟨its, hs, s2⟩ := s'.ex
          exact SX.tail (A := its) (B := []) (show SX K Hf' (its ++ []) Fr H' by rw [List.append_nil]; exact s2)) x
      | stk => exact h.elim
end

/-! ### subscripts -/
abbrev DK := Sum Key (List Key)
def asKey : PyData → Option Key
  | .int i => some (.inl i)
  | .str x => some (.inr x)
  | _ => none
def asKeys : List PyData → Option (List Key)
  | [] => some []
  | d :: ds => match asKey d, asKeys ds with
    | some k, some ks => some (k :: ks)
    | _, _ => none
def asDK : PyData → Option DK
  | .int i => some (.inl (.inl i))
  | .str x => some (.inl (.inr x))
  | .tuple ds => (asKeys ds).map .inr
  | _ => none
/-- a key's tuple that is no module's constant -/
def fineK : DK → Bool
  | .inl _ => true
  | .inr ks => ks.any fun k => match k with
    | .inl _ => true
    | .inr _ => false
theorem asKey_kD (k : Key) : asKey (kD k) = some k := by cases k <;> rfl
theorem asKeys_kD : ∀ ks : List Key, asKeys (ks.map kD) = some ks
  | [] => rfl
  | k :: ks => by rw [List.map_cons, asKeys, asKey_kD, asKeys_kD ks]
theorem asKey_inv {d : PyData} {k : Key} (h : asKey d = some k) : d = kD k := by
  cases d <;> simp [asKey] at h <;> subst h <;> rfl
theorem asKeys_inv : ∀ {ds : List PyData} {ks : List Key}, asKeys ds = some ks → ds = ks.map kD
  | [], ks, h => by simp [asKeys] at h; subst h; rfl
  | d :: ds, ks, h => by
    rw [asKeys] at h
    split at h
    · rename_i k ks' h1 h2
      cases h
      rw [List.map_cons, ← asKey_inv h1, ← asKeys_inv h2]
    · cases h
theorem asDK_kD (k : Key) : asDK (kD k) = some (.inl k) := by cases k <;> rfl
theorem asDK_ktD (ks : List Key) : asDK (ktD ks) = some (.inr ks) := by simp [asDK, ktD, asKeys_kD]
theorem asDK_inl {d : PyData} {k : Key} (h : asDK d = some (.inl k)) : d = kD k := by
  cases d <;> simp [asDK] at h <;> subst h <;> rfl
theorem asDK_inr {d : PyData} {ks : List Key} (h : asDK d = some (.inr ks)) : d = ktD ks := by
  cases d with
  | tuple ds =>
    simp only [asDK, Option.map_eq_some_iff] at h
    obtain ⟨ks', h1, h2⟩ := h
    cases h2
    rw [asKeys_inv h1]; rfl
  | _ => simp [asDK] at h
/-- what the dict holds at k -/
def dLook (kvs : List (PyData × PyData)) (k : PyData) : Option PyData := match asDK k with
  | some q => (kvs.find? fun p => decide (asDK p.1 = some q)).map (·.2)
  | none => none
def isT : List (PyData × PyData) → Bool
  | (.none, _) :: _ => true
  | _ => false
/-- may k be asked of the dict -/
def okK (kvs : List (PyData × PyData)) (k : PyData) : Bool := match asDK k with
  | some (.inl _) => !isT kvs
  | some (.inr ks) => isT kvs && fineK (.inr ks)
  | none => false
section
variable {K : PySem.W.Frag} {H : Hp}
theorem rp_key {y : V} {k : Key} (h : Rp K H y (kD k)) : y = kV k := by
  cases k with
  | inl i => exact rp_int h
  | inr x => exact rp_str h
theorem rpAll_keys : ∀ {ys : List V} {ks : List Key}, RpAll K H ys (ks.map kD) → ys = ks.map kV
  | _, [], .nil => rfl
  | _, k :: ks, .cons h r => by rw [rp_key h, rpAll_keys r]; rfl
theorem rp_keyT {y : V} {ks : List Key} (h : Rp K H y (ktD ks)) (hf : fineK (.inr ks) = true) : ∃ b, y = .ref b ∧ H b = some (.tup (ks.map kV)) := by
  generalize hd : ktD ks = d at h
  cases h with
  | tup h r =>
    cases hd
    exact ⟨_, rfl, by rw [← rpAll_keys r]; exact h⟩
  | tupK h n =>
    rename_i xs
    exfalso
    have e : ks.map kD = xs.map PyData.str := by injection hd
    have : ∀ (ks : List Key) (xs : List Str), ks.map kD = xs.map PyData.str → (ks.any fun k => match k with | .inl _ => true | .inr _ => false) = false := by
      intro ks
      induction ks with
      | nil => intro _ _; rfl
      | cons k ks ih =>
        intro xs e
        cases xs with
        | nil => cases e
        | cons x xs =>
          injection e with e1 e2
          cases k with
          | inl i => cases e1
          | inr z => simp only [List.any_cons, Bool.false_or]; exact ih xs e2
    rw [fineK, this ks xs e] at hf
    cases hf
  | non => cases hd
  | bl => cases hd
  | int => cases hd
  | str => cases hd
  | lst => cases hd
  | dk => cases hd
  | dt => cases hd
theorem find_zip {κ : Type} [DecidableEq κ] {key : κ → PyData} {q : κ → DK} (hq : ∀ k, asDK (key k) = some (q k)) (inj : ∀ a b, q a = q b → a = b) : ∀ {kvs : List (κ × V)} {ds : List PyData} {k : κ}, RpAll K H (kvs.map (·.2)) ds →
    (∀ d, (((kvs.map fun p => key p.1).zip ds).find? fun p => decide (asDK p.1 = some (q k))).map (·.2) = some d → ∃ v, valV kvs k = some v ∧ Rp K H v d) ∧ ((((kvs.map fun p => key p.1).zip ds).find? fun p => decide (asDK p.1 = some (q k))).map (·.2)).isSome = (valV kvs k).isSome
  | [], _, k, r => ⟨fun d h => by simp at h, by simp [valV]⟩
  | (k', v) :: kvs, d :: ds, k, .cons h r => by
    obtain ⟨ih1, ih2⟩ := find_zip hq inj (kvs := kvs) (ds := ds) (k := k) r
    simp only [List.map_cons, List.zip_cons_cons, List.find?_cons, hq]
    by_cases e : k' = k
    · subst e
      simp only [decide_true, Option.map_some]
      refine ⟨fun d' h' => ?_, ?_⟩
      · cases h'
        exact ⟨v, valV_pos (p := (k', v)) rfl, h⟩
      · rw [valV_pos (p := (k', v)) rfl]; rfl
    · have ne : ¬ some (q k') = some (q k) := fun z => e (inj _ _ (Option.some.inj z))
      simp only [decide_eq_false ne]
      rw [valV_neg (p := (k', v)) (by exact e)]
      exact ⟨ih1, ih2⟩
/-- the dict at a, as HandS asks it -/
theorem rp_dget {x y : V} {kvs : List (PyData × PyData)} {k : PyData} (hx : Rp K H x (.dict kvs)) (hy : Rp K H y k) (ok : okK kvs k = true) : ∃ a o, x = .ref a ∧ DGet H a y o ∧ o.isSome = (dLook kvs k).isSome ∧ ∀ d, dLook kvs k = some d → ∃ v, o = some v ∧ Rp K H v d := by
  unfold okK at ok
  unfold dLook
  cases q : asDK k with
  | none => rw [q] at ok; cases ok
  | some dk =>
    rw [q] at ok
    generalize hd : PyData.dict kvs = dd at hx
    cases hx with
    | dk hr r =>
      rename_i a kv ds
      cases hd
      cases dk with
      | inl key =>
        have e := asDK_inl q
        subst e
        have ey := rp_key hy
        subst ey
        obtain ⟨f1, f2⟩ := find_zip (key := kD) (q := .inl) asDK_kD (fun a b z => Sum.inl.inj z) (k := key) r
        exact ⟨_, _, rfl, .inl ⟨_, key, hr, rfl, rfl⟩, f2.symm, fun d hd => by
          obtain ⟨v, h1, h2⟩ := f1 d hd
          exact ⟨v, h1, h2⟩⟩
      | inr ks =>
        exfalso
        have ok : (isT _ && fineK (.inr ks)) = true := ok
        rw [Bool.and_eq_true] at ok
        have h1 := ok.1
        cases kv with
        | nil => cases h1
        | cons p kv =>
          cases ds with
          | nil => cases r
          | cons d ds =>
            obtain ⟨k', v⟩ := p
            cases k' <;> cases h1
    | dt hr r =>
      rename_i a kv ds
      cases hd
      cases dk with
      | inl key => cases ok
      | inr ks =>
        have ok : (isT _ && fineK (.inr ks)) = true := ok
        rw [Bool.and_eq_true] at ok
        have e := asDK_inr q
        subst e
        obtain ⟨b, rfl, hb⟩ := rp_keyT hy ok.2
        obtain ⟨f1, f2⟩ := find_zip (key := ktD) (q := .inr) asDK_ktD (fun a b z => Sum.inr.inj z) (k := ks) r
        have skip : ∀ l : List (PyData × PyData), (((PyData.none, PyData.none) :: l).find? fun p => decide (asDK p.1 = some (.inr ks))) = l.find? fun p => decide (asDK p.1 = some (.inr ks)) := fun l => by
          rw [List.find?_cons]
          have : decide (asDK PyData.none = some (Sum.inr ks)) = false := by simp [asDK]
          simp only [this]
        simp only [skip]
        exact ⟨_, _, rfl, .inr ⟨_, ks, b, hr, rfl, hb, rfl⟩, f2.symm, fun d hd => by
          obtain ⟨v, h1, h2⟩ := f1 d hd
          exact ⟨v, h1, h2⟩⟩
    | non => cases hd
    | bl => cases hd
    | int => cases hd
    | str => cases hd
    | lst => cases hd
    | tup => cases hd
    | tupK => cases hd
end
def rIxD : R2 := fun x y H Q => ∃ a v, x = .ref a ∧ DGet H a y (some v) ∧ Q v H
theorem ix_dict (hu : X.A.units + 1 < cLine) : IxR X rIxD := by
  intro value slice pins s σ H x y v u Q I rx ry h hs
  obtain ⟨a, z, rfl, g, q⟩ := h
  cases rx
  exact tail_any (dict_typeIs I g) PySem.F.slot_dict_getitem.lookup (d_getItem hu I g ry fun w' s3 I3 rw' => ⟨z, H, I3, rw', q⟩) hs
def gSub (a b : OV) : Option OV := match fz a, fz b with
  | .list ds, .int i => (atI ds i).map .sh
  | .tuple ds, .int i => (atI ds i).map .sh
  | .str z, .int i => if z.length ≤ sizeLine then (atI z.cps.toList i).map fun c => .sh (.str ⟨#[c]⟩) else none
  | .dict kvs, k => if okK kvs k = true then (dLook kvs k).map .sh else none
  | _, _ => none
theorem rpAll_at {K : PySem.W.Frag} {H : Hp} {vs : List V} {ds : List PyData} {i : Int} {d : PyData} (r : RpAll K H vs ds) (h : atI ds i = some d) : ∃ v, atI vs i = some v ∧ Rp K H v d := by
  unfold atI at h ⊢
  rw [r.len]
  cases q : ixN ds.length i with
  | none => rw [q] at h; cases h
  | some j =>
    rw [q] at h
    exact r.get h
abbrev rSub (K : PySem.W.Frag) : R2 := fun x y H Q => rIx K x y H Q ∨ rIxD x y H Q
theorem op2_sub {K : PySem.W.Frag} : Op2 K (rSub K) gSub := by
  intro Hf its F H x y a b c Q s h q
  obtain ⟨Hf', sm, s'⟩ := s.freeze2
  have q' : ∀ v H' Hf2, Same Hf' Hf2 → SX K Hf2 ((v, c) :: its) F H' → Q v H' := fun v H' Hf2 z => q v H' Hf2 (sm.trans z)
  unfold gSub at h
  generalize fz a = da at *
  generalize fz b = db at *
  have ry := s'.rp
  have rx := s'.drop.rp
  have s2 := s'.drop.drop
  split at h
  · obtain ⟨d, hd, rfl⟩ := Option.map_eq_some_iff.mp h
    obtain ⟨p1, xs, rfl, t1, r1⟩ := rx.sqL
    have e2 := rp_int ry
    subst e2
    obtain ⟨v, hv, rv⟩ := rpAll_at r1 hd
    exact .inl (.inl ⟨p1, xs, _, v, rfl, rfl, s'.sub.sqL t1, hv, q' _ _ _ (Same.refl _) (s2.add rv)⟩)
  · obtain ⟨d, hd, rfl⟩ := Option.map_eq_some_iff.mp h
    obtain ⟨p1, xs, rfl, t1, r1⟩ := rx.sqT
    have e2 := rp_int ry
    subst e2
    obtain ⟨v, hv, rv⟩ := rpAll_at r1 hd
    exact .inl (.inr (.inl ⟨p1, xs, _, v, rfl, rfl, s'.sub.sqT t1, hv, q' _ _ _ (Same.refl _) (s2.add rv)⟩))
  · split at h
    · rename_i hz
      obtain ⟨d, hd, rfl⟩ := Option.map_eq_some_iff.mp h
      have e1 := rp_str rx
      have e2 := rp_int ry
      subst e1 e2
      exact .inl (.inr (.inr ⟨_, _, d, rfl, rfl, hz, hd, q' _ _ _ (Same.refl _) (s2.add (.str _))⟩))
    · cases h
  · split at h
    · rename_i ok
      obtain ⟨d, hd, rfl⟩ := Option.map_eq_some_iff.mp h
      obtain ⟨ad, o, rfl, hg, _, f⟩ := rp_dget (rx.mono s'.sub) (ry.mono s'.sub) ok
      obtain ⟨ad', o', e', hg', _, f'⟩ := rp_dget rx ry ok
      obtain ⟨v, rfl, rv⟩ := f' d hd
      cases e'
      refine .inr ⟨ad, v, rfl, ?_, q' _ _ _ (Same.refl _) (s2.add rv)⟩
      rcases hg' with ⟨kvs, k, e, ey, l⟩ | ⟨kvs, k, b, e, ey, eb, l⟩
      · exact .inl ⟨kvs, k, s'.sub.rd e, ey, l⟩
      · exact .inr ⟨kvs, k, b, s'.sub.rd e, ey, s'.sub.tup eb, l⟩
    · cases h
  · cases h
theorem ev_sub_ix (G : Good X W n) (ha : EvE X W a fa) (hb : EvE X W b fb) (hs : PlainIx b := by intro _ _; rfl) : EvE X W (.Subscript a b pos) (eBin gSub fa fb) := ev_top op2_sub (pe_ix (ix_seq.or (ix_dict (by have := G.hu; omega))) ha hb hs)
end
end Ev
namespace Ev
open PySem PySem.Spec L2
open PyProof.Rows hiding St

section
variable {X : Cx} {W : WX} {e a b c : Expr} {es rest : List Expr} {f fa fb fc : Rho → Re} {ta tb : Rho → ReB} {fl : Rho → ReL} {p pos : Pos} {n m k : Nat} {x : Str}
/-! ### in -/
def flatD : PyData → Bool
  | .none => true | .bool _ => true | .int _ => true | .str _ => true | _ => false
theorem flat_rp {K : PySem.W.Frag} {H : Hp} {v : V} {d : PyData} (r : Rp K H v d) (h : flatD d = true) : flatV v = true := by
  cases r <;> first | rfl | (exact absurd (show false = true from h) Bool.false_ne_true)
theorem flat_eq {K : PySem.W.Frag} {H : Hp} {v w : V} {d e : PyData} (r : Rp K H v d) (q : Rp K H w e) (h : flatD d = true) (h' : flatD e = true) : eqV v w = PyData.eqv d e := by
  cases r <;> first
    | (exact absurd (show false = true from h) Bool.false_ne_true)
    | (cases q <;> first
        | (exact absurd (show false = true from h') Bool.false_ne_true)
        | (simp only [eqV, PyData.eqv]; done)
        | rfl)
theorem flat_all {K : PySem.W.Frag} {H : Hp} {v : V} {d : PyData} (r : Rp K H v d) (h : flatD d = true) : ∀ {vs : List V} {ds : List PyData}, RpAll K H vs ds → ds.all flatD = true → vs.all flatV = true ∧ inV v vs = ds.any fun z => PyData.eqv z d
  | _, _, .nil, _ => ⟨rfl, rfl⟩
  | _, _, .cons q t, hd => by
    rw [List.all_cons, Bool.and_eq_true] at hd
    obtain ⟨h1, h2⟩ := flat_all r h t hd.2
    refine ⟨by rw [List.all_cons, flat_rp q hd.1, h1]; rfl, ?_⟩
    unfold inV at h2 ⊢
    rw [List.any_cons, List.any_cons, flat_eq q r hd.1 h, h2]
def gIn (neg : Bool) (a b : OV) : Option OV := match fz b with
  | .list ds => if SeqAt.shaped (fz a) = true ∧ SeqAt.shaped (.list ds) = true then some (.sh (.bool (neg ^^ ds.any fun z => PyData.eqv z (fz a)))) else none
  | .tuple ds => if flatD (fz a) = true ∧ ds.all flatD = true then some (.sh (.bool (neg ^^ ds.any fun z => PyData.eqv z (fz a)))) else none
  | .dict kvs => if okK kvs (fz a) = true then some (.sh (.bool (neg ^^ (dLook kvs (fz a)).isSome))) else none
  | .str z => match fz a with
    | .str y => some (.sh (.bool (neg ^^ !(Builtin.Str.occurrences z y 0 z.length 1).isEmpty)))
    | _ => none
  | _ => none
def rInDict (neg : Bool) : R2 := fun x y H Q => ∃ a o, y = .ref a ∧ DGet H a x o ∧ Q (.bl (neg ^^ o.isSome)) H
def rInStr (neg : Bool) : R2 := fun x y H Q => ∃ i j, x = .str i ∧ y = .str j ∧ Q (.bl (neg ^^ !(Builtin.Str.occurrences j i 0 j.length 1).isEmpty)) H
def rInL (K : PySem.W.Frag) (neg : Bool) : R2 := fun x y H Q => ∃ d ds, Dp K H x d ∧ Dp K H y (.list ds) ∧ SeqAt.shaped d = true ∧ SeqAt.shaped (.list ds) = true ∧ Q (.bl (neg ^^ ds.any fun z => PyData.eqv z d)) H
abbrev rInAll (K : PySem.W.Frag) (neg : Bool) : R2 := fun x y H Q => rIn K neg x y H Q ∨ (rInL K neg x y H Q ∨ (rInDict neg x y H Q ∨ rInStr neg x y H Q))
theorem opr_in (G : Good X W n) : OpR X (compareOp .In) (rInAll X.K false) := by
  refine OpR.or op_in_seq (OpR.or (fun pins s σ H x y v u Q I rx ry ⟨d, ds, h1, h2, h3, h4, q⟩ => op_inD G.hu pins s σ H x y v u Q I rx ry ⟨d, ds, h1, h2, h3, h4, by simpa using q⟩) (OpR.or ?_ ?_))
  · intro pins s σ H x y v u Q I rx ry ⟨a, o, e, g, q⟩
    subst e
    cases ry
    exact d_in (by have := G.hu; omega) I g rx fun s' I' => ⟨.bl o.isSome, H, I', rfl, by simpa using q⟩
  · intro pins s σ H x y v u Q I rx ry ⟨i, j, e1, e2, q⟩
    exact op_in_str pins s σ H x y v u Q I rx ry ⟨i, j, e1, e2, by simpa using q⟩
theorem opr_notin (G : Good X W n) : OpR X (compareOp .NotIn) (rInAll X.K true) := by
  refine OpR.or op_notIn_seq (OpR.or (fun pins s σ H x y v u Q I rx ry ⟨d, ds, h1, h2, h3, h4, q⟩ => op_notInD G.hu pins s σ H x y v u Q I rx ry ⟨d, ds, h1, h2, h3, h4, by simpa using q⟩) (OpR.or ?_ ?_))
  · intro pins s σ H x y v u Q I rx ry ⟨a, o, e, g, q⟩
    subst e
    cases ry
    exact d_notIn (by have := G.hu; omega) I g rx fun s' I' => ⟨.bl (!o.isSome), H, I', rfl, by simpa using q⟩
  · intro pins s σ H x y v u Q I rx ry ⟨i, j, e1, e2, q⟩
    exact op_notin_str pins s σ H x y v u Q I rx ry ⟨i, j, e1, e2, by simpa using q⟩
theorem op2_in {K : PySem.W.Frag} (neg : Bool) : Op2 K (rInAll K neg) (gIn neg) := by
  intro Hf its F H x y a b c Q s h q
  have ry := s.rdH
  have rx := s.drop.rdH
  have s2 := s.drop.drop
  have fin : ∀ k, c = .sh (.bool k) → Q (.bl k) H := fun k e => by
    subst e
    exact q _ _ _ (Same.refl _) (s2.add (.bl _))
  unfold gIn at h
  generalize fz a = da at *
  generalize fz b = db at *
  split at h
  · split at h
    · rename_i hc
      cases h
      exact .inr (.inl ⟨_, _, rx.dp (SeqAt.canLay_of_shaped hc.1), ry.dp (SeqAt.canLay_of_shaped hc.2), hc.1, hc.2, fin _ rfl⟩)
    · cases h
  · split at h
    · rename_i hc
      cases h
      obtain ⟨p1, ys, rfl, t1, r1⟩ := ry.sqT
      obtain ⟨h1, h2⟩ := flat_all rx hc.1 r1 hc.2
      refine .inl ⟨p1, ys, rfl, .inr t1, flat_rp rx hc.1, h1, ?_⟩
      cases neg with
      | false => rw [if_neg Bool.false_ne_true, h2]; exact fin _ (by rw [Bool.false_xor])
      | true => rw [if_pos rfl, h2]; exact fin _ (by rw [Bool.true_xor])
    · cases h
  · split at h
    · rename_i ok
      cases h
      obtain ⟨ad, o, rfl, hg, he, _⟩ := rp_dget ry rx ok
      exact .inr (.inr (.inl ⟨ad, o, rfl, hg, by rw [he]; exact fin _ rfl⟩))
    · cases h
  · split at h
    · cases h
      have e1 := rp_str rx
      have e2 := rp_str ry
      subst e1 e2
      exact .inr (.inr (.inr ⟨_, _, rfl, rfl, fin _ rfl⟩))
    · cases h
  · cases h
theorem ec_in (G : Good X W n) (ha : EvE X W a fa) (hb : EvE X W b fb) : EvC X W .In a b (eBin (gIn false) fa fb) := ec_op (opr_in G) (op2_in false) ha hb
theorem ec_notin (G : Good X W n) (ha : EvE X W a fa) (hb : EvE X W b fb) : EvC X W .NotIn a b (eBin (gIn true) fa fb) := ec_op (opr_notin G) (op2_in true) ha hb

/-! ### built-ins by their names -/
def OpN (K : PySem.W.Frag) (r : List V → Hp → VK → Prop) (g : List OV → Option OV) : Prop :=
  ∀ (Hf : Hp) (its : Its) (F : Bs) (H : Hp) (vs : List V) (os : List OV) (c : OV) (Q : VK), vs.length = os.length → SX K Hf (vs.zip os ++ its) F H → g os = some c →
    (∀ v H' Hf', Same Hf Hf' → SX K Hf' ((v, c) :: its) F H' → Q v H') → r vs H Q
def eFn (g : List OV → Option OV) (fl : Rho → ReL) (ρ : Rho) : Re := bindL (fl ρ) fun os ρ1 => ofO (g os) ρ1
theorem fn_post {r : List V → Hp → VK → Prop} {g : List OV → Option OV} (ho : OpN X.K r g) {σ : St} {H : Hp} {Q : VK} {Hf : Hp} {T : Its} {ρ : Rho} {F : Bs} (s : SI X.K Hf T ρ F σ H) (h : PostE X W Hf T F σ (eFn g fl ρ) Q) : tL X W fl σ H fun vs H1 => r vs H1 Q :=
  ⟨Hf, T, ρ, F, s, PostL.bind h fun os ρ1 vs H1 Hf1 l sm s1 h1 => by
    cases q : g os with
    | none => rw [q] at h1; exact h1.elim
    | some c =>
      rw [q] at h1
      obtain ⟨its, hs, s2⟩ := s1.ex
      rw [List.append_assoc] at s2
      exact ho Hf1 (T ++ its) F H1 vs os c Q l s2 q fun v H' Hf' sm' s' => h1 v H' Hf' sm' ⟨its, hs, s'⟩⟩
theorem ev_fnB {id : String} {r : List V → Hp → VK → Prop} {g : List OV → Option OV} (hc : CallR X (.builtin id) r) (ho : OpN X.K r g) (hg : Gl X x) (hm : X.mg x = none) (hv : bootBuiltins x = some (.builtin id)) (ha : EvL X W (e :: es) fl) (hn : x ≠ "__name__" := by decide) (hdb : (x == ("__debug__" : Str)) = false := by decide)
    (he : starEach (e :: es) X.env = (false, eval e X.env) :: starEach es X.env := by rfl) (hpl : (backTo pos (starEach es X.env)).any (·.1) = false := by rfl) : EvE X W (.Call (.Name x p) (e :: es) [] pos) (eFn g fl) :=
  pe_w (pe_callB hc hg hm hv ha hn hdb he hpl) fun σ H Q ⟨Hf, T, ρ, F, s, h⟩ => fn_post ho s h
theorem ev_fnT {id : String} {r : List V → Hp → VK → Prop} {g : List OV → Option OV} (hc : CallR X (.type id) r) (ho : OpN X.K r g) (hg : Gl X x) (hm : X.mg x = none) (hv : bootBuiltins x = some (.type id)) (ha : EvL X W (e :: es) fl) (hn : x ≠ "__name__" := by decide) (hdb : (x == ("__debug__" : Str)) = false := by decide)
    (he : starEach (e :: es) X.env = (false, eval e X.env) :: starEach es X.env := by rfl) (hpl : (backTo pos (starEach es X.env)).any (·.1) = false := by rfl) : EvE X W (.Call (.Name x p) (e :: es) [] pos) (eFn g fl) :=
  pe_w (pe_callTy hc hg hm hv ha hn hdb he hpl) fun σ H Q ⟨Hf, T, ρ, F, s, h⟩ => fn_post ho s h
/-- one argument, read -/
theorem opN1 {K : PySem.W.Frag} {r : List V → Hp → VK → Prop} {g : PyData → Option OV} (h : ∀ Hf its F H v d c Q, SX K Hf its F H → Rp K Hf v d → g d = some c → (∀ v H' Hf', Same Hf Hf' → SX K Hf' ((v, c) :: its) F H' → Q v H') → r [v] H Q) :
    OpN K r fun os => match os with | [o] => g (fz o) | _ => none := by
  intro Hf its F H vs os c Q l s hg q
  simp only at hg
  split at hg
  · rename_i o
    match vs, l with
    | [v], _ =>
      obtain ⟨Hf', sm, s'⟩ := SX.freeze (its := its) s
      exact h Hf' its F H v (fz o) c Q s'.drop s'.rp hg fun v H' Hf2 z => q v H' Hf2 (sm.trans z)
  · cases hg
theorem opN2 {K : PySem.W.Frag} {r : List V → Hp → VK → Prop} {g : PyData → PyData → Option OV} (h : ∀ Hf its F H v w d d' c Q, SX K Hf its F H → Rp K Hf v d → Rp K Hf w d' → g d d' = some c → (∀ v H' Hf', Same Hf Hf' → SX K Hf' ((v, c) :: its) F H' → Q v H') → r [v, w] H Q) :
    OpN K r fun os => match os with | [o, o'] => g (fz o) (fz o') | _ => none := by
  intro Hf its F H vs os c Q l s hg q
  simp only at hg
  split at hg
  · rename_i o o'
    match vs, l with
    | [v, w], _ =>
      obtain ⟨Hf', sm, r, s'⟩ := SX.freezeAll (its := its) [v, w] [o, o'] Hf rfl s
      cases r with
      | cons r1 r =>
        cases r with
        | cons r2 r => exact h Hf' its F H v w (fz o) (fz o') c Q s' r1 r2 hg fun v H' Hf2 z => q v H' Hf2 (sm.trans z)
  · cases hg
abbrev g1 (g : PyData → Option OV) : List OV → Option OV := fun os => match os with | [o] => g (fz o) | _ => none
abbrev g2 (g : PyData → PyData → Option OV) : List OV → Option OV := fun os => match os with | [o, o'] => g (fz o) (fz o') | _ => none

/-- len -/
def dLen : PyData → Option OV
  | .list ds => some (.sh (.int ds.length))
  | .tuple ds => some (.sh (.int ds.length))
  | .str z => if z.length ≤ sizeLine then some (.sh (.int z.length)) else none
  | _ => none
abbrev rLen (K : PySem.W.Frag) : List V → Hp → VK → Prop := fun xs H Q => (∃ p ys, xs = [.ref p] ∧ (SqL K H p ys ∨ SqT K H p ys) ∧ Q (.int ys.length) H) ∨ ∃ z, xs = [.str z] ∧ z.length ≤ sizeLine ∧ Q (.int z.length) H
theorem opn_len {K : PySem.W.Frag} : OpN K (rLen K) (g1 dLen) := opN1 fun Hf its F H v d c Q s r h q => by
  unfold dLen at h
  split at h
  · cases h
    obtain ⟨p1, ys, rfl, t1, r1⟩ := r.sqL
    exact .inl ⟨p1, ys, rfl, .inl (s.sub.sqL t1), by rw [r1.len]; exact q _ _ _ (Same.refl _) (s.add (.int _))⟩
  · cases h
    obtain ⟨p1, ys, rfl, t1, r1⟩ := r.sqT
    exact .inl ⟨p1, ys, rfl, .inr (s.sub.sqT t1), by rw [r1.len]; exact q _ _ _ (Same.refl _) (s.add (.int _))⟩
  · split at h
    · rename_i hz
      cases h
      have e := rp_str r
      subst e
      exact .inr ⟨_, rfl, hz, q _ _ _ (Same.refl _) (s.add (.int _))⟩
    · cases h
  · cases h
/-- a built-in function, a built-in type, by its rule -/
structure BIn (X : Cx) (x : Str) (id : String) (g : List OV → Option OV) : Prop where
  ex : ∃ r, CallR X (.builtin id) r ∧ OpN X.K r g
  nm : X.mg x = none
  bt : bootBuiltins x = some (.builtin id)
structure BTy (X : Cx) (x : Str) (id : String) (g : List OV → Option OV) : Prop where
  ex : ∃ r, CallR X (.type id) r ∧ OpN X.K r g
  nm : X.mg x = none
  bt : bootBuiltins x = some (.type id)
theorem ev_b {id : String} {g : List OV → Option OV} (B : BIn X x id g) (hg : Gl X x) (ha : EvL X W (e :: es) fl) (hn : x ≠ "__name__" := by decide) (hdb : (x == ("__debug__" : Str)) = false := by decide)
    (he : starEach (e :: es) X.env = (false, eval e X.env) :: starEach es X.env := by rfl) (hpl : (backTo pos (starEach es X.env)).any (·.1) = false := by rfl) : EvE X W (.Call (.Name x p) (e :: es) [] pos) (eFn g fl) := by
  obtain ⟨r, hc, ho⟩ := B.ex
  exact ev_fnB hc ho hg B.nm B.bt ha hn hdb he hpl
theorem ev_ty {id : String} {g : List OV → Option OV} (B : BTy X x id g) (hg : Gl X x) (ha : EvL X W (e :: es) fl) (hn : x ≠ "__name__" := by decide) (hdb : (x == ("__debug__" : Str)) = false := by decide)
    (he : starEach (e :: es) X.env = (false, eval e X.env) :: starEach es X.env := by rfl) (hpl : (backTo pos (starEach es X.env)).any (·.1) = false := by rfl) : EvE X W (.Call (.Name x p) (e :: es) [] pos) (eFn g fl) := by
  obtain ⟨r, hc, ho⟩ := B.ex
  exact ev_fnT hc ho hg B.nm B.bt ha hn hdb he hpl
theorem b_len (hm : X.mg "len" = none) : BIn X "len" "len" (g1 dLen) := ⟨⟨_, call_len_seq.or call_len_str, opn_len⟩, hm, boot_len⟩

/-- abs, max, min of two ints -/
def dAbs : PyData → Option OV
  | .int i => some (.sh (.int (if i < 0 then -i else i)))
  | _ => none
theorem b_abs (hm : X.mg "abs" = none) : BIn X "abs" "abs" (g1 dAbs) := ⟨⟨_, call_abs, opN1 fun Hf its F H v d c Q s r h q => by
  unfold dAbs at h
  split at h
  · cases h
    have e := rp_int r
    subst e
    exact ⟨_, rfl, q _ _ _ (Same.refl _) (s.add (.int _))⟩
  · cases h⟩, hm, by decide +kernel⟩
def intsOf : List PyData → Option (List Int)
  | [] => some []
  | .int i :: ds => (intsOf ds).map (i :: ·)
  | _ => none
def boolsOf : List PyData → Option (List Bool)
  | [] => some []
  | .bool i :: ds => (boolsOf ds).map (i :: ·)
  | _ => none
theorem rp_ints {K : PySem.W.Frag} {H : Hp} : ∀ {vs : List V} {ds : List PyData} {ns : List Int}, RpAll K H vs ds → intsOf ds = some ns → vs = ns.map V.int
  | _, _, _, .nil, h => by simp [intsOf] at h; subst h; rfl
  | _, _, ns, .cons (d := d) r t, h => by
    cases d with
    | int i =>
      obtain ⟨ms, h1, rfl⟩ := Option.map_eq_some_iff.mp h
      rw [rp_int r, rp_ints t h1]; rfl
    | _ => cases h
theorem rp_bls {K : PySem.W.Frag} {H : Hp} : ∀ {vs : List V} {ds : List PyData} {ns : List Bool}, RpAll K H vs ds → boolsOf ds = some ns → vs = ns.map V.bl
  | _, _, _, .nil, h => by simp [boolsOf] at h; subst h; rfl
  | _, _, ns, .cons (d := d) r t, h => by
    cases d with
    | bool i =>
      obtain ⟨ms, h1, rfl⟩ := Option.map_eq_some_iff.mp h
      rw [rp_bl r, rp_bls t h1]; rfl
    | _ => cases h
/-- the greatest, the least of some ints -/
def maxI : List Int → Int
  | [] => 0
  | [x] => x
  | x :: y :: r => max x (maxI (y :: r))
def minI : List Int → Int
  | [] => 0
  | [x] => x
  | x :: y :: r => min x (minI (y :: r))
theorem maxI_spec : ∀ {ns : List Int}, ns ≠ [] → maxI ns ∈ ns ∧ ∀ y ∈ ns, y ≤ maxI ns
  | [x], _ => ⟨by simp [maxI], by simp [maxI]⟩
  | x :: y :: r, _ => by
    obtain ⟨h1, h2⟩ := maxI_spec (ns := y :: r) (by simp)
    have e : maxI (x :: y :: r) = max x (maxI (y :: r)) := rfl
    rw [e]
    refine ⟨?_, fun z hz => ?_⟩
    · by_cases h : x ≤ maxI (y :: r)
      · rw [Int.max_eq_right h]; exact List.mem_cons_of_mem _ h1
      · rw [Int.max_eq_left (by omega)]; exact List.mem_cons_self
    · rcases List.mem_cons.mp hz with rfl | hz
      · exact Int.le_max_left _ _
      · exact Int.le_trans (h2 z hz) (Int.le_max_right _ _)
theorem minI_spec : ∀ {ns : List Int}, ns ≠ [] → minI ns ∈ ns ∧ ∀ y ∈ ns, minI ns ≤ y
  | [x], _ => ⟨by simp [minI], by simp [minI]⟩
  | x :: y :: r, _ => by
    obtain ⟨h1, h2⟩ := minI_spec (ns := y :: r) (by simp)
    have e : minI (x :: y :: r) = min x (minI (y :: r)) := rfl
    rw [e]
    refine ⟨?_, fun z hz => ?_⟩
    · by_cases h : x ≤ minI (y :: r)
      · rw [Int.min_eq_left h]; exact List.mem_cons_self
      · rw [Int.min_eq_right (by omega)]; exact List.mem_cons_of_mem _ h1
    · rcases List.mem_cons.mp hz with rfl | hz
      · exact Int.min_le_left _ _
      · exact Int.le_trans (Int.min_le_right _ _) (h2 z hz)
/-- max(a, b), max(list) -/
def gMax (two : Int → Int → Int) (many : List Int → Int) (os : List OV) : Option OV := match os with
  | [o, o'] => match fz o, fz o' with
    | .int i, .int j => some (.sh (.int (two i j)))
    | _, _ => none
  | [o] => match fz o with
    | .list ds => match intsOf ds with
      | some ns => if ns.isEmpty = true then none else some (.sh (.int (many ns)))
      | none => none
    | _ => none
  | _ => none
abbrev max2 (i j : Int) : Int := if j > i then j else i
abbrev min2 (i j : Int) : Int := if j < i then j else i
theorem opn_max {K : PySem.W.Frag} : OpN K (fun xs H Q => (∃ i j, xs = [V.int i, V.int j] ∧ Q (.int (if j > i then j else i)) H) ∨ rMax K xs H Q) (gMax max2 maxI) := by
  intro Hf its F H vs os c Q l s hg q
  unfold gMax at hg
  split at hg
  · exact opN2 (r := fun xs H Q => (∃ i j, xs = [V.int i, V.int j] ∧ Q (.int (if j > i then j else i)) H) ∨ rMax K xs H Q) (g := fun d d' => match d, d' with | .int i, .int j => some (.sh (.int (max2 i j))) | _, _ => none)
      (fun Hf its F H v w d d' c Q s r r' h q => by
        split at h
        · cases h
          have e := rp_int r
          have e' := rp_int r'
          subst e e'
          exact .inl ⟨_, _, rfl, q _ _ _ (Same.refl _) (s.add (.int _))⟩
        · cases h) Hf its F H vs _ c Q l s hg q
  · rename_i o
    match vs, l with
    | [v], _ =>
      obtain ⟨Hf', sm, s'⟩ := SX.freeze (its := its) s
      split at hg
      · split at hg
        · rename_i e1 _ _ e2
          split at hg
          · cases hg
          · rename_i hne
            cases hg
            rw [e1] at s'
            obtain ⟨p1, ys, rfl, t1, r1⟩ := s'.rp.sqL
            have ey := rp_ints r1 e2
            subst ey
            rename_i ns _
            have hne' : ns ≠ [] := fun z => hne (by rw [z]; rfl)
            refine .inr ⟨p1, ns, rfl, s'.sub.sqL t1, by cases ns with | nil => exact absurd rfl hne' | cons _ _ => simp, fun m hm hle => ?_⟩
            obtain ⟨g1, g2⟩ := maxI_spec hne'
            have e : m = maxI ns := Int.le_antisymm (g2 m hm) (hle _ g1)
            rw [e]
            exact q _ _ _ sm (s'.drop.add (.int _))
        · cases hg
      · cases hg
  · cases hg
theorem opn_min {K : PySem.W.Frag} : OpN K (fun xs H Q => (∃ i j, xs = [V.int i, V.int j] ∧ Q (.int (if j < i then j else i)) H) ∨ rMin K xs H Q) (gMax min2 minI) := by
  intro Hf its F H vs os c Q l s hg q
  unfold gMax at hg
  split at hg
  · exact opN2 (r := fun xs H Q => (∃ i j, xs = [V.int i, V.int j] ∧ Q (.int (if j < i then j else i)) H) ∨ rMin K xs H Q) (g := fun d d' => match d, d' with | .int i, .int j => some (.sh (.int (min2 i j))) | _, _ => none)
      (fun Hf its F H v w d d' c Q s r r' h q => by
        split at h
        · cases h
          have e := rp_int r
          have e' := rp_int r'
          subst e e'
          exact .inl ⟨_, _, rfl, q _ _ _ (Same.refl _) (s.add (.int _))⟩
        · cases h) Hf its F H vs _ c Q l s hg q
  · rename_i o
    match vs, l with
    | [v], _ =>
      obtain ⟨Hf', sm, s'⟩ := SX.freeze (its := its) s
      split at hg
      · split at hg
        · rename_i e1 _ _ e2
          split at hg
          · cases hg
          · rename_i hne
            cases hg
            rw [e1] at s'
            obtain ⟨p1, ys, rfl, t1, r1⟩ := s'.rp.sqL
            have ey := rp_ints r1 e2
            subst ey
            rename_i ns _
            have hne' : ns ≠ [] := fun z => hne (by rw [z]; rfl)
            refine .inr ⟨p1, ns, rfl, s'.sub.sqL t1, by cases ns with | nil => exact absurd rfl hne' | cons _ _ => simp, fun m hm hle => ?_⟩
            obtain ⟨g1, g2⟩ := minI_spec hne'
            have e : m = minI ns := Int.le_antisymm (hle _ g1) (g2 m hm)
            rw [e]
            exact q _ _ _ sm (s'.drop.add (.int _))
        · cases hg
      · cases hg
  · cases hg
theorem b_max (hc : X.calm = true) (hm : X.mg "max" = none) : BIn X "max" "max" (gMax max2 maxI) := ⟨⟨_, (call_max2 hc).or (cr_max hc), opn_max⟩, hm, by decide +kernel⟩
theorem b_min (hc : X.calm = true) (hm : X.mg "min" = none) : BIn X "min" "min" (gMax min2 minI) := ⟨⟨_, (call_min2 hc).or (cr_min hc), opn_min⟩, hm, by decide +kernel⟩
/-- sum, all, any of a list -/
def dSum : PyData → Option OV
  | .list ds => (intsOf ds).map fun ns => .sh (.int ns.sum)
  | _ => none
def dAll (f : List Bool → Bool) : PyData → Option OV
  | .list ds => (boolsOf ds).map fun ns => .sh (.bool (f ns))
  | _ => none
theorem b_sum (hc : X.calm = true) (hm : X.mg "sum" = none) : BIn X "sum" "sum" (g1 dSum) := ⟨⟨_, cr_sum hc, opN1 fun Hf its F H v d c Q s r h q => by
  unfold dSum at h
  split at h
  · obtain ⟨ns, h1, rfl⟩ := Option.map_eq_some_iff.mp h
    obtain ⟨p1, ys, rfl, t1, r1⟩ := r.sqL
    have ey := rp_ints r1 h1
    subst ey
    exact ⟨p1, ns, rfl, s.sub.sqL t1, q _ _ _ (Same.refl _) (s.add (.int _))⟩
  · cases h⟩, hm, by decide +kernel⟩
theorem b_all (hc : X.calm = true) (hm : X.mg "all" = none) : BIn X "all" "all" (g1 (dAll fun bs => bs.all id)) := ⟨⟨_, cr_all hc, opN1 fun Hf its F H v d c Q s r h q => by
  unfold dAll at h
  split at h
  · obtain ⟨ns, h1, rfl⟩ := Option.map_eq_some_iff.mp h
    obtain ⟨p1, ys, rfl, t1, r1⟩ := r.sqL
    have ey := rp_bls r1 h1
    subst ey
    exact ⟨p1, ns, rfl, s.sub.sqL t1, q _ _ _ (Same.refl _) (s.add (.bl _))⟩
  · cases h⟩, hm, by decide +kernel⟩
theorem b_any (hc : X.calm = true) (hm : X.mg "any" = none) : BIn X "any" "any" (g1 (dAll fun bs => bs.any id)) := ⟨⟨_, cr_any hc, opN1 fun Hf its F H v d c Q s r h q => by
  unfold dAll at h
  split at h
  · obtain ⟨ns, h1, rfl⟩ := Option.map_eq_some_iff.mp h
    obtain ⟨p1, ys, rfl, t1, r1⟩ := r.sqL
    have ey := rp_bls r1 h1
    subst ey
    exact ⟨p1, ns, rfl, s.sub.sqL t1, q _ _ _ (Same.refl _) (s.add (.bl _))⟩
  · cases h⟩, hm, by decide +kernel⟩
/-- int(n), int(flag) -/
def dInt : PyData → Option OV
  | .int i => some (.sh (.int i))
  | .bool b => some (.sh (.int (if b then 1 else 0)))
  | _ => none
theorem b_int (hm : X.mg "int" = none) : BTy X "int" "int" (g1 dInt) := ⟨⟨_, call_int1, opN1 fun Hf its F H v d c Q s r h q => by
  unfold dInt at h
  split at h
  · cases h
    have e := rp_int r
    subst e
    exact .inl ⟨_, rfl, q _ _ _ (Same.refl _) (s.add (.int _))⟩
  · cases h
    have e := rp_bl r
    subst e
    exact .inr ⟨_, rfl, q _ _ _ (Same.refl _) (s.add (.int _))⟩
  · cases h⟩, hm, by decide +kernel⟩
/-- list(x), tuple(x) -/
def dList : PyData → Option OV
  | .list ds => some (.lst (ds.map .sh))
  | .tuple ds => some (.lst (ds.map .sh))
  | _ => none
def dTuple : PyData → Option OV
  | .list ds => some (.sh (.tuple ds))
  | .tuple ds => some (.sh (.tuple ds))
  | _ => none
theorem b_list (hm : X.mg "list" = none) : BTy X "list" "list" (g1 dList) := ⟨⟨_, call_list_of, opN1 fun Hf its F H v d c Q s r h q => by
  unfold dList at h
  split at h
  · cases h
    obtain ⟨p1, ys, rfl, t1, r1⟩ := r.sqL
    exact ⟨p1, ys, rfl, .inl (s.sub.sqL t1), fun l hl => q _ _ _ (Same.refl _) (s.mkLst r1 hl)⟩
  · cases h
    obtain ⟨p1, ys, rfl, t1, r1⟩ := r.sqT
    exact ⟨p1, ys, rfl, .inr (s.sub.sqT t1), fun l hl => q _ _ _ (Same.refl _) (s.mkLst r1 hl)⟩
  · cases h⟩, hm, by decide +kernel⟩
theorem b_tuple (hm : X.mg "tuple" = none) : BTy X "tuple" "tuple" (g1 dTuple) := ⟨⟨_, call_tuple_of, opN1 fun Hf its F H v d c Q s r h q => by
  unfold dTuple at h
  split at h
  · cases h
    obtain ⟨p1, ys, rfl, t1, r1⟩ := r.sqL
    refine ⟨p1, ys, rfl, .inl ⟨s.sub.sqL t1, fun l hl => ?_⟩⟩
    obtain ⟨s3, sm⟩ := s.mkTup r1 hl
    exact q _ _ _ sm s3
  · cases h
    obtain ⟨p1, ys, rfl, t1, r1⟩ := r.sqT
    exact ⟨p1, ys, rfl, .inr ⟨s.sub.sqT t1, q _ _ _ (Same.refl _) (s.add r)⟩⟩
  · cases h⟩, hm, by decide +kernel⟩
/-! ### isinstance -/
def tyN : PyData → String
  | .none => "NoneType" | .bool _ => "bool" | .int _ => "int" | .str _ => "str" | .list _ => "list" | .tuple _ => "tuple" | .dict _ => "dict"
def isiB (T : String) : PyData → Bool
  | .none => false
  | .bool _ => T == "int" || T == "bool"
  | .int _ => T == "int"
  | .str _ => T == "str"
  | .list _ => T == "list"
  | .tuple _ => T == "tuple"
  | .dict _ => T == "dict"
def isDict : PyData → Bool
  | .dict _ => true
  | _ => false
theorem rp_ty {K : PySem.W.Frag} {H : Hp} {v : V} {d : PyData} (r : Rp K H v d) (h : isDict d = false) : TyX K H v (.type (tyN d)) := by
  cases r with
  | non => exact .base .non
  | bl b => exact .base (.bl b)
  | int i => exact .base (.int i)
  | str x => exact .base (.str x)
  | lst hr _ =>
    rcases hr with (hr | ⟨o, hr⟩) | ⟨o, its, k, hr, hc, _⟩
    · exact .base (.lst hr)
    · exact .base (.frz hr)
    · exact .kList hr hc
  | tup hr _ => exact .base (.tup hr)
  | tupK hr _ =>
    rcases hr with (hr | ⟨o, hr⟩) | ⟨o, its, k, hr, hc, _⟩
    · exact .base (.tup hr)
    · exact .fTuple hr
    · exact .kTuple hr hc
  | dk _ _ => cases h
  | dt _ _ => cases h
theorem kit_isi {K : PySem.W.Frag} {T : String} (hT : T = "int" ∨ T = "bool" ∨ T = "str" ∨ T = "list" ∨ T = "tuple") (d : PyData) (h : isDict d = false) : PySem.W.kitOne K (.type (tyN d)) (.type T) = some (isiB T d) := by
  cases d with
  | dict _ => cases h
  | _ => rcases hT with rfl | rfl | rfl | rfl | rfl <;> (simp only [tyN, isiB]; exact kit_ty (by decide +kernel))
def gIsi (T : String) (os : List OV) : Option OV := match os with
  | [o] => if isDict (fz o) = true then none else some (.sh (.bool (isiB T (fz o))))
  | _ => none
theorem ev_isi {T : String} {tn : Expr} (hg : Gl X "isinstance") (hm : X.mg "isinstance" = none) (hT : T = "int" ∨ T = "bool" ∨ T = "str" ∨ T = "list" ∨ T = "tuple") (ht : PE X tn (tC (.ty T))) (ha : EvE X W a fa)
    (he : starEach [a, tn] X.env = (false, eval a X.env) :: starEach [tn] X.env := by rfl) (hpl : (backTo pos (starEach [tn] X.env)).any (·.1) = false := by rfl) (he2 : starEach [tn] X.env = (false, eval tn X.env) :: starEach [] X.env := by rfl) : EvE X W (.Call (.Name "isinstance" p) [a, tn] [] pos) (eFn (gIsi T) (lCons fa lNil)) := by
  refine pe_w (pe_callB call_isi hg hm (by decide +kernel) (pa_cons ha (pa_cons ht pa_nil he2) he) (by decide) (by decide) he hpl) fun σ H Q ⟨Hf, T', ρ, F, s, h⟩ => ?_
  unfold eFn lCons at h
  refine ⟨Hf, T', ρ, F, s, ?_⟩
  cases q : fa ρ with
  | exc e ρ1 => rw [q] at h; exact h
  | stk => rw [q] at h; exact h
  | ok o ρ1 =>
    simp only [q, bindEL, lNil, bindLL, bindL, gIsi] at h
    intro v H1 Hf1 sm s1
    by_cases hd : isDict (fz o) = true
    · rw [if_pos hd] at h; exact h.elim
    · rw [if_neg hd] at h
      have hd' : isDict (fz o) = false := by simpa using hd
      have r := s1.rdH
      refine ⟨v, .ty T, _, _, isiB T (fz o), rfl, .ty T, rp_ty r hd', kit_isi hT _ hd', ?_⟩
      exact h _ H1 Hf1 sm (s1.drop.add (.bl _))
end
end Ev
namespace Ev
open PySem PySem.Spec L2
open PyProof.Rows hiding St

theorem SI.put' {K : PySem.W.Frag} {Hf H : Hp} {T : Its} {F : Bs} {v : V} {o : OV} {ρ : Rho} {σ : St} (i : Nat) (s : SI K Hf ((v, o) :: T) ρ F σ H) : SI K Hf T (ρ.set i (some o)) F (σ.set i (some v)) H := by
  by_cases hi : i < ρ.length
  · exact s.put hi
  · have h1 : ρ.set i (some o) = ρ := List.set_eq_of_length_le (by omega)
    have h2 : σ.set i (some v) = σ := List.set_eq_of_length_le (by have := s.len; omega)
    rw [h1, h2]
    exact s.drop
section
variable {X : Cx} {W : WX} {e a b c : Expr} {es rest : List Expr} {sts body els : List Stmt} {st : Stmt} {f fa fb fc : Rho → Re} {ta tb : Rho → ReB} {fl : Rho → ReL} {g g1 g2 : Rho → Out} {p pos : Pos} {n m k : Nat} {x : Str}
/-! ### statements -/
def sNil (ρ : Rho) : Out := .next ρ
def sCons (g1 g2 : Rho → Out) (ρ : Rho) : Out := match g1 ρ with
  | .next ρ' => g2 ρ'
  | .ret o ρ' => .ret o ρ'
  | .brk ρ' => .brk ρ'
  | .cnt ρ' => .cnt ρ'
  | .exc e ρ' => .exc e ρ'
  | .stk => .stk
theorem eb_nil : EvB X W [] sNil := pss_w pss_nil fun D σ H ⟨Hf, ρ, F, s, h⟩ => h σ H Hf (Same.refl _) s
theorem eb_one (h : EvS X W st g) : EvB X W [st] g := pss_one h
theorem eb_cons (h1 : EvS X W st g1) (h2 : EvB X W sts g2) : EvB X W (st :: sts) (sCons g1 g2) := pss_w (pss_cons h1 h2) fun D σ H ⟨Hf, ρ, F, s, h⟩ => by
  refine ⟨Hf, ρ, F, s, ?_⟩
  unfold sCons at h
  cases q : g1 ρ with
  | next ρ' => rw [q] at h; exact fun σ' H' Hf' sm s' => ⟨Hf', ρ', F, s', PostS.mono sm h⟩
  | ret o ρ' => rw [q] at h; exact h
  | brk ρ' => rw [q] at h; exact h
  | cnt ρ' => rw [q] at h; exact h
  | exc e ρ' => rw [q] at h; exact h
  | stk => rw [q] at h; exact h
def sPass (ρ : Rho) : Out := .next ρ
def sBrk (ρ : Rho) : Out := .brk ρ
def sCnt (ρ : Rho) : Out := .cnt ρ
theorem es_pass : EvS X W (.Pass pos) sPass := ps_w ps_pass fun D σ H ⟨Hf, ρ, F, s, h⟩ => h σ H Hf (Same.refl _) s
theorem es_brk : EvS X W (.Break pos) sBrk := ps_w ps_break fun D σ H ⟨Hf, ρ, F, s, h⟩ => h σ H Hf (Same.refl _) s
theorem es_cnt : EvS X W (.Continue pos) sCnt := ps_w ps_continue fun D σ H ⟨Hf, ρ, F, s, h⟩ => h σ H Hf (Same.refl _) s
def sRetN (ρ : Rho) : Out := .ret (.sh .none) ρ
theorem es_retN : EvS X W (.Return none pos) sRetN := ps_w ps_retN fun D σ H ⟨Hf, ρ, F, s, h⟩ => h .non σ H Hf (Same.refl _) (s.add .non)
def sRet (f : Rho → Re) (ρ : Rho) : Out := bindS (f ρ) fun o ρ1 => .ret o ρ1
theorem es_ret (he : EvE X W e f) : EvS X W (.Return (some e) pos) (sRet f) := ps_w (ps_ret he) fun D σ H ⟨Hf, ρ, F, s, h⟩ =>
  ⟨Hf, [], ρ, F, s, PostE.bindS h fun o ρ1 v H1 Hf1 sm s1 h1 => h1 v σ H1 Hf1 (Same.refl _) s1⟩
def sExpr (f : Rho → Re) (ρ : Rho) : Out := bindS (f ρ) fun _ ρ1 => .next ρ1
theorem es_expr (he : EvE X W e f) (hs : swapsWith e none pos.line X.env = pure false := by rfl) : EvS X W (.Expr e pos) (sExpr f) := ps_w (ps_expr he hs) fun D σ H ⟨Hf, ρ, F, s, h⟩ =>
  ⟨Hf, [], ρ, F, s, PostE.bindS h fun o ρ1 v H1 Hf1 sm s1 h1 => h1 σ H1 Hf1 (Same.refl _) s1.drop⟩
def sIf (tc : Rho → ReB) (g1 g2 : Rho → Out) (ρ : Rho) : Out := bindBS (tc ρ) fun b ρ1 => if b = true then g1 ρ1 else g2 ρ1
theorem es_if {tc : Rho → ReB} (hc : EvT X W c tc) (h1 : EvB X W body g1) (h2 : EvB X W els g2) : EvS X W (.If c body els pos) (sIf tc g1 g2) := ps_w (ps_if hc h1 h2) fun D σ H ⟨Hf, ρ, F, s, h⟩ =>
  ⟨Hf, [], ρ, F, s, PostB.bindBS h fun b ρ1 H1 Hf1 sm s1 h1 => by
    cases b with
    | true => rw [if_pos rfl]; exact ⟨Hf1, ρ1, F, s1, h1⟩
    | false => rw [if_neg Bool.false_ne_true]; exact ⟨Hf1, ρ1, F, s1, h1⟩⟩
def sSet (i : Nat) (f : Rho → Re) (ρ : Rho) : Out := bindS (f ρ) fun o ρ1 => .next (ρ1.set i (some o))
theorem es_set {i : Nat} {pos' : Pos} (hN : X.N.Nodup) (hi : X.N[i]? = some x) (hx : Loc X.env.scope x) (he : EvE X W e f) (hs : swapsWith e (some (.Name x pos')) pos.line X.env = pure false := by rfl) (hf : X.fn x = true ∨ X.env.scope.names.lookup x = some .local := by first | exact .inl rfl | exact .inr rfl | assumption) :
    EvS X W (.Assign [.Name x pos'] e pos) (sSet i f) := ps_w (ps_set hN hi hx he hs hf) fun D σ H ⟨Hf, ρ, F, s, h⟩ =>
  ⟨Hf, [], ρ, F, s, PostE.bindS h fun o ρ1 v H1 Hf1 sm s1 h1 => h1 _ H1 Hf1 (Same.refl _) (s1.put' i)⟩
/-! ### targets -/
theorem wipe_get (σ : St) (j : Nat) : ∀ is : List Nat, (wipe σ is)[j]? = if j ∈ is ∧ j < σ.length then some none else σ[j]?
  | [] => by simp [wipe]
  | i :: is => by
    unfold wipe
    by_cases e : i = j
    · subst e
      by_cases hl : i < σ.length
      · rw [List.getElem?_set_self (by rw [wipe_length]; exact hl), if_pos ⟨List.mem_cons_self, hl⟩]
      · rw [List.getElem?_eq_none (by rw [List.length_set, wipe_length]; omega), if_neg (fun z => hl z.2), List.getElem?_eq_none (by omega)]
    · rw [List.getElem?_set_ne e, wipe_get σ j is]
      have h2 : ¬ j = i := fun q => e q.symm
      simp [List.mem_cons, h2]
theorem wipe_set {σ : St} {i : Nat} {y : Option V} {is : List Nat} (h : i ∈ is) : wipe (σ.set i y) is = wipe σ is := by
  apply List.ext_getElem?
  intro j
  rw [wipe_get, wipe_get, List.length_set]
  by_cases hj : j ∈ is ∧ j < σ.length
  · rw [if_pos hj, if_pos hj]
  · rw [if_neg hj, if_neg hj]
    by_cases e : i = j
    · subst e
      have hl : σ.length ≤ i := Nat.le_of_not_lt fun z => hj ⟨h, z⟩
      rw [List.set_eq_of_length_le hl]
    · rw [List.getElem?_set_ne e]
/-- is: the slots that the target stores -/
def tG (X : Cx) (is : List Nat) (h : OV → Rho → Option Rho) : TG := fun v σ H Q => ∃ Hf T ρ F o, SI X.K Hf ((v, o) :: T) ρ F σ H ∧ (match h o ρ with
  | some ρ' => ∀ σ' H' Hf', wipe σ' is = wipe σ is → Same Hf Hf' → SI X.K Hf' T ρ' F σ' H' → Q σ' H'
  | none => False)
def EvG (X : Cx) (is : List Nat) (tg : Expr) (h : OV → Rho → Option Rho) : Prop := PG X tg (tG X is h)
theorem pg_w {X : Cx} {tg : Expr} {t t' : TG} (h : PG X tg t) (hw : ∀ v σ H Q, t' v σ H Q → t v σ H Q) : PG X tg t' := ⟨fun pins s σ H v u Q I r h' => h.run pins s σ H v u Q I r (hw v σ H Q h')⟩
theorem pg_or {X : Cx} {tg : Expr} {t t' : TG} (h : PG X tg t) (h' : PG X tg t') : PG X tg (fun v σ H Q => t v σ H Q ∨ t' v σ H Q) := ⟨fun pins s σ H v u Q I r q => q.elim (h.run pins s σ H v u Q I r) (h'.run pins s σ H v u Q I r)⟩
def hName (i : Nat) (o : OV) (ρ : Rho) : Option Rho := some (ρ.set i (some o))
theorem eg_name {is : List Nat} {i : Nat} (hN : X.N.Nodup) (hi : X.N[i]? = some x) (hx : Loc X.env.scope x) (hf : X.fn x = true ∨ X.env.scope.names.lookup x = some .local := by first | exact .inl rfl | exact .inr rfl | assumption) (him : i ∈ is := by decide) : EvG X is (.Name x pos) (hName i) :=
  pg_w (pg_name hN hi hx hf) fun v σ H Q ⟨Hf, T, ρ, F, o, s, h⟩ => h _ H Hf (wipe_set him) (Same.refl _) (s.put' i)
/-- several targets -/
def tGs (X : Cx) (is : List Nat) (hs : List PyData → Rho → Option Rho) : TGs := fun vs σ H Q => ∃ Hf T ρ F ds, RpAll X.K Hf vs ds ∧ SI X.K Hf T ρ F σ H ∧ (match hs ds ρ with
  | some ρ' => ∀ σ' H' Hf', wipe σ' is = wipe σ is → Same Hf Hf' → SI X.K Hf' T ρ' F σ' H' → Q σ' H'
  | none => False)
def EvGs (X : Cx) (is : List Nat) (tgs : List Expr) (h : List PyData → Rho → Option Rho) : Prop := PGs X tgs (tGs X is h)
theorem pgs_w {X : Cx} {tg : List Expr} {t t' : TGs} (h : PGs X tg t) (hw : ∀ v σ H Q, t' v σ H Q → t v σ H Q) : PGs X tg t' := ⟨fun pins s σ H v u Q I r h' => h.run pins s σ H v u Q I r (hw v σ H Q h')⟩
def hNil (ds : List PyData) (ρ : Rho) : Option Rho := match ds with
  | [] => some ρ
  | _ => none
def hCons (h : OV → Rho → Option Rho) (hs : List PyData → Rho → Option Rho) (ds : List PyData) (ρ : Rho) : Option Rho := match ds with
  | [] => none
  | d :: r => match h (.sh d) ρ with
    | some ρ1 => hs r ρ1
    | none => none
theorem egs_nil {is : List Nat} : EvGs X is [] hNil := pgs_w pgs_nil fun vs σ H Q ⟨Hf, T, ρ, F, ds, r, s, h⟩ => by
  cases r with
  | nil => exact ⟨rfl, h σ H Hf rfl (Same.refl _) s⟩
  | cons _ _ => exact h.elim
theorem egs_cons {is : List Nat} {tgs : List Expr} {h1 : OV → Rho → Option Rho} {h2 : List PyData → Rho → Option Rho} (q1 : EvG X is e h1) (q2 : EvGs X is tgs h2) (hs : (assignEach (e :: tgs) X.env).map (·.2) = assign e X.env :: (assignEach tgs X.env).map (·.2) := by rfl) : EvGs X is (e :: tgs) (hCons h1 h2) := pgs_w (pgs_cons q1 q2 hs) fun vs σ H Q ⟨Hf, T, ρ, F, ds, r, s, h⟩ => by
  cases r with
  | nil => exact h.elim
  | @cons v vs d ds r1 r2 =>
    refine ⟨v, vs, rfl, Hf, T, ρ, F, .sh d, s.add r1, ?_⟩
    unfold hCons at h
    simp only at h
    cases q : h1 (.sh d) ρ with
    | none => rw [q] at h; exact h
    | some ρ1 =>
      rw [q] at h
      refine fun σ' H' Hf' ew sm s' => ⟨Hf', T, ρ1, F, ds, r2.mono (.of sm), s', ?_⟩
      simp only at h
      cases q2 : h2 ds ρ1 with
      | none => rw [q2] at h; exact h
      | some ρ2 => rw [q2] at h; exact fun σ2 H2 Hf2 ew2 sm2 => h σ2 H2 Hf2 (ew2.trans ew) (sm.trans sm2)
def hTup (n : Nat) (hs : List PyData → Rho → Option Rho) (o : OV) (ρ : Rho) : Option Rho := match fz o with
  | .tuple ds => if ds.length = n then hs ds ρ else none
  | .list ds => if ds.length = n then hs ds ρ else none
  | _ => none
theorem eg_tup {is : List Nat} {tgs : List Expr} {h : List PyData → Rho → Option Rho} {k : Nat} (G : Good X W m) (hq : EvGs X is tgs h)
    (hn : (assignEach tgs X.env).length = n := by rfl) (hst : (assignEach tgs X.env).findIdx? (·.1) = none := by rfl) : EvG X is (.Tuple tgs k pos) (hTup n h) :=
  pg_w (pg_or (pg_tup G.calm hq hn hst) (pg_lst G.calm hq hn hst)) fun v σ H Q ⟨Hf, T, ρ, F, o, s, hh⟩ => by
    obtain ⟨Hf', sm, s'⟩ := s.freeze
    unfold hTup at hh
    cases hd : fz o with
    | tuple ds =>
      rw [hd] at s'
      simp only [hd] at hh
      by_cases hl : ds.length = n
      · rw [if_pos hl] at hh
        obtain ⟨a, xs, rfl, t1, r1⟩ := s'.rp.sqT
        refine .inl ⟨a, xs, rfl, s'.sub.sqT t1, by rw [r1.len, hl], Hf', T, ρ, F, ds, r1, s'.drop, ?_⟩
        cases q : h ds ρ with
        | none => rw [q] at hh; exact hh
        | some ρ' => rw [q] at hh; exact fun σ2 H2 Hf2 ew sm2 => hh σ2 H2 Hf2 ew (sm.trans sm2)
      · rw [if_neg hl] at hh; exact hh.elim
    | list ds =>
      rw [hd] at s'
      simp only [hd] at hh
      by_cases hl : ds.length = n
      · rw [if_pos hl] at hh
        obtain ⟨a, xs, rfl, t1, r1⟩ := s'.rp.sqL
        refine .inr ⟨a, xs, rfl, s'.sub.sqL t1, by rw [r1.len, hl], Hf', T, ρ, F, ds, r1, s'.drop, ?_⟩
        cases q : h ds ρ with
        | none => rw [q] at hh; exact hh
        | some ρ' => rw [q] at hh; exact fun σ2 H2 Hf2 ew sm2 => hh σ2 H2 Hf2 ew (sm.trans sm2)
      · rw [if_neg hl] at hh; exact hh.elim
    | _ => simp only [hd] at hh
def ofH (r : Option Rho) : Out := match r with
  | some ρ => .next ρ
  | none => .stk
def sAsg (h : OV → Rho → Option Rho) (f : Rho → Re) (ρ : Rho) : Out := bindS (f ρ) fun o ρ1 => ofH (h o ρ1)
theorem es_asg {is : List Nat} {tg : Expr} {h : OV → Rho → Option Rho} (he : EvE X W e f) (hg : EvG X is tg h) (hs : swapsWithSole [tg] e pos.line X.env = pure false := by rfl) (hw : swappedStores [tg] e X.env = pure none := by rfl)
    (h1 : (assignEach [tg] X.env).map (·.2) = [assign tg X.env] := by rfl) : EvS X W (.Assign [tg] e pos) (sAsg h f) := ps_w (ps_asg he hg hs hw h1) fun D σ H ⟨Hf, ρ, F, s, hh⟩ =>
  ⟨Hf, [], ρ, F, s, PostE.bindS hh fun o ρ1 v H1 Hf1 sm s1 h1 => by
    refine ⟨Hf1, [], ρ1, F, o, s1, ?_⟩
    cases q : h o ρ1 with
    | none => rw [q] at h1; exact h1
    | some ρ2 => rw [q] at h1; exact fun σ' H' Hf' ew sm' s' => h1 σ' H' Hf' sm' s'⟩
/-- a, b = x, y -/
def sPar (i j : Nat) (fl : Rho → ReL) (ρ : Rho) : Out := match fl ρ with
  | .ok [o, o'] ρ1 => .next ((ρ1.set i (some o)).set j (some o'))
  | .exc e ρ1 => .exc e ρ1
  | _ => .stk
theorem es_par {i j : Nat} {y : Str} {px py pt : Pos} {kt k2 pt2} (G : Good X W m) (hN : X.N.Nodup) (hi : X.N[i]? = some x) (hj : X.N[j]? = some y) (hij : i ≠ j)
    (hx : X.env.scope.names.lookup x = some .local) (hy : X.env.scope.names.lookup y = some .local) (ha : EvL X W [a, b] fl)
    (hw : swappedStores [.Tuple [.Name x px, .Name y py] kt pt] (.Tuple [a, b] k2 pt2) X.env = pure (some [x, y]) := by rfl)
    (hs : swapsWithSole [.Tuple [.Name x px, .Name y py] kt pt] (.Tuple [a, b] k2 pt2) pos.line X.env = pure false := by rfl) :
    EvS X W (.Assign [.Tuple [.Name x px, .Name y py] kt pt] (.Tuple [a, b] k2 pt2) pos) (sPar i j fl) := ps_w (ps_par G.calm hN hi hj hij hx hy ha hw hs) fun D σ H ⟨Hf, ρ, F, s, h⟩ => by
  refine ⟨Hf, [], ρ, F, s, ?_⟩
  unfold sPar at h
  cases q : fl ρ with
  | exc e ρ1 => rw [q] at h; exact fun H' Hf' cls d sm s' => h σ H' Hf' cls d sm s'
  | stk => rw [q] at h; exact h
  | ok os ρ1 =>
    rw [q] at h
    match os, h with
    | [o, o'], h =>
      intro vs H1 Hf1 l sm s1
      match vs, l with
      | [v, w], _ =>
        refine ⟨v, w, rfl, h _ H1 Hf1 sm ?_⟩
        exact SI.put' j (SI.put' i s1)
    | [], h => exact h.elim
    | [_], h => exact h.elim
    | _ :: _ :: _ :: _, h => exact h.elim

/-! ### what is walked -/
structure WalkD (K : PySem.W.Frag) (Hf : Hp) (J : It) (ds : List PyData) : Prop where
  goes : ∀ i H, i < ds.length → Ext Hf H → J.go i H
  stops : ∀ H, Ext Hf H → J.stop ds.length H
  yields : ∀ i H y H', i < ds.length → Ext Hf H → J.yld i H y H' → ∃ d, ds[i]? = some d ∧ ((H' = H ∧ Rp K Hf y d) ∨ ∃ T xs es, y = .ref T ∧ H T = none ∧ H' = upd H T (.tup xs) ∧ RpAll K Hf xs es ∧ d = .tuple es)
inductive ReI where
  | ok (ds : List PyData) (ρ : Rho) | exc (e : Exn) (ρ : Rho) | stk
def tI (X : Cx) (W : WX) (f : Rho → ReI) : TI := fun σ H R => ∃ Hf T ρ F, SI X.K Hf T ρ F σ H ∧ (match f ρ with
  | .ok ds ρ' => ∀ J H' Hf', Same Hf Hf' → SI X.K Hf' T ρ' F σ H' → WalkD X.K Hf' J ds → R J H'
  | .exc e ρ' => ∀ H' Hf' cls d, Same Hf Hf' → SI X.K Hf' [] ρ' F σ H' → ExnIs X.mg X.K Hf' H' e cls d → W cls d σ H'
  | .stk => False)
def EvI (X : Cx) (W : WX) (tg iter : Expr) (f : Rho → ReI) : Prop := PI X tg iter (tI X W f)
theorem pi_w {X : Cx} {tg it : Expr} {t t' : TI} (h : PI X tg it t) (hw : ∀ σ H R, t' σ H R → t σ H R) : PI X tg it t' := ⟨fun pins s σ H R I h' => h.run pins s σ H R I (hw σ H R h')⟩
theorem pi_or {X : Cx} {tg it : Expr} {t t' : TI} (h : PI X tg it t) (h' : PI X tg it t') : PI X tg it (fun σ H R => t σ H R ∨ t' σ H R) := ⟨fun pins s σ H R I q => q.elim (h.run pins s σ H R I) (h'.run pins s σ H R I)⟩
/-- the items of a value -/
def itemsOf : PyData → Option (List PyData)
  | .list ds => some ds
  | .tuple ds => some ds
  | _ => none
def iVal (f : Rho → Re) (ρ : Rho) : ReI := match f ρ with
  | .ok o ρ1 => match itemsOf (fz o) with
    | some ds => .ok ds ρ1
    | none => .stk
  | .exc e ρ1 => .exc e ρ1
  | .stk => .stk
theorem walkD_list {K : PySem.W.Frag} {Hf : Hp} {a : Addr} {xs : List V} {ds : List PyData} (h : SqL K Hf a xs) (r : RpAll K Hf xs ds) : WalkD K Hf (Itl K a) ds := by
  have w := @walk_list K a xs
  refine ⟨fun i H hi e => w.goes i H (by rw [r.len]; exact hi) (e.sqL h), fun H e => by rw [← r.len]; exact w.stops H (e.sqL h), fun i H y H' hi e q => ?_⟩
  obtain ⟨e1, e2⟩ := w.yields i H y H' (by rw [r.len]; exact hi) (e.sqL h) q
  obtain ⟨d, hd, rd⟩ := r.get' e2
  exact ⟨d, hd, .inl ⟨e1, rd⟩⟩
theorem walkD_tup {K : PySem.W.Frag} {Hf : Hp} {a : Addr} {xs : List V} {ds : List PyData} (h : SqT K Hf a xs) (r : RpAll K Hf xs ds) : WalkD K Hf (Itt K a) ds := by
  have w := @walk_tup K a xs
  refine ⟨fun i H hi e => w.goes i H (by rw [r.len]; exact hi) (e.sqT h), fun H e => by rw [← r.len]; exact w.stops H (e.sqT h), fun i H y H' hi e q => ?_⟩
  obtain ⟨e1, e2⟩ := w.yields i H y H' (by rw [r.len]; exact hi) (e.sqT h) q
  obtain ⟨d, hd, rd⟩ := r.get' e2
  exact ⟨d, hd, .inl ⟨e1, rd⟩⟩
theorem ei_val {tg : Expr} (h : EvE X W e f) : EvI X W tg e (iVal f) := pi_w (pi_or (pi_list h) (pi_tup h)) fun σ H R ⟨Hf, T, ρ, F, s, h⟩ => by
  unfold iVal at h
  cases q : f ρ with
  | exc e ρ1 => rw [q] at h; exact .inl ⟨Hf, T, ρ, F, s, by rw [q]; exact h⟩
  | stk => rw [q] at h; exact h.elim
  | ok o ρ1 =>
    simp only [q] at h
    cases q2 : fz o with
    | list ds =>
      simp only [q2, itemsOf] at h
      refine .inl ⟨Hf, T, ρ, F, s, ?_⟩
      rw [q]
      intro v H1 Hf1 sm s1
      obtain ⟨Hf2, sm2, s2⟩ := s1.freeze
      rw [q2] at s2
      obtain ⟨a, xs, rfl, t1, r1⟩ := s2.rp.sqL
      exact ⟨a, rfl, ⟨xs, s2.sub.sqL t1⟩, h _ H1 Hf2 (sm.trans sm2) s2.drop (walkD_list t1 r1)⟩
    | tuple ds =>
      simp only [q2, itemsOf] at h
      refine .inr ⟨Hf, T, ρ, F, s, ?_⟩
      rw [q]
      intro v H1 Hf1 sm s1
      obtain ⟨Hf2, sm2, s2⟩ := s1.freeze
      rw [q2] at s2
      obtain ⟨a, xs, rfl, t1, r1⟩ := s2.rp.sqT
      exact ⟨a, rfl, ⟨xs, s2.sub.sqT t1⟩, h _ H1 Hf2 (sm.trans sm2) s2.drop (walkD_tup t1 r1)⟩
    | _ => simp only [q2, itemsOf] at h
/-- lo, lo + 1, .. -/
def upto (lo : Int) (n : Nat) : List PyData := (List.range n).map fun i => .int (lo + (i : Nat))
theorem walkD_range {K : PySem.W.Frag} {Hf : Hp} {lo : Int} {n : Nat} : WalkD K Hf (Itr lo n) (upto lo n) := by
  have hl : (upto lo n).length = n := by simp [upto]
  refine ⟨fun i H hi _ => by rw [hl] at hi; exact hi, fun H _ => by rw [hl]; exact Nat.le_refl _, fun i H y H' hi _ q => ?_⟩
  obtain ⟨e1, e2⟩ := q
  rw [hl] at hi
  refine ⟨.int (lo + (i : Nat)), by simp [upto, hi], .inl ⟨e1, ?_⟩⟩
  rw [e2]
  exact .int _
def rngOk (i : Int) : Bool := decide (-(2 ^ 62) ≤ i ∧ i < 2 ^ 62)
def iRange1 (f : Rho → Re) (ρ : Rho) : ReI := match f ρ with
  | .ok (.sh (.int j)) ρ1 => if rngOk j = true then .ok (upto 0 j.toNat) ρ1 else .stk
  | .exc e ρ1 => .exc e ρ1
  | _ => .stk
def iRange2 (fl : Rho → ReL) (ρ : Rho) : ReI := match fl ρ with
  | .ok [.sh (.int i), .sh (.int j)] ρ1 => if (rngOk i && rngOk j) = true then .ok (upto i (j - i).toNat) ρ1 else .stk
  | .exc e ρ1 => .exc e ρ1
  | _ => .stk
theorem ei_range1 {tg : Expr} (hg : Gl X "range") (hm : X.mg "range" = none) (h : EvE X W a f) (hs : starEach [a] X.env = [(false, eval a X.env)] := by rfl) : EvI X W tg (.Call (.Name "range" p) [a] [] pos) (iRange1 f) :=
  pi_w (pi_range1 hg hm (pa_cons h pa_nil (by rw [hs]; rfl)) hs) fun σ H R ⟨Hf, T, ρ, F, s, h⟩ => by
    refine ⟨Hf, T, ρ, F, s, ?_⟩
    unfold iRange1 at h
    cases q : f ρ with
    | exc e ρ1 => rw [q] at h; exact h
    | stk => rw [q] at h; exact h
    | ok o ρ1 =>
      rw [q] at h
      intro v H1 Hf1 sm s1
      cases o with
      | sh d =>
        cases d with
        | int j =>
          simp only at h
          by_cases hr : rngOk j = true
          · rw [if_pos hr] at h
            have e := rp_int s1.rp
            subst e
            have hr' := of_decide_eq_true hr
            exact ⟨j, rfl, hr'.1, hr'.2, h _ H1 Hf1 sm s1.drop walkD_range⟩
          · rw [if_neg hr] at h; exact h.elim
        | _ => exact h.elim
      | _ => exact h.elim
theorem ei_range2 {tg : Expr} (hg : Gl X "range") (hm : X.mg "range" = none) (h : EvL X W [a, b] fl) (hs : starEach [a, b] X.env = [(false, eval a X.env), (false, eval b X.env)] := by rfl) (hs2 : starEach [b] X.env = [(false, eval b X.env)] := by rfl) : EvI X W tg (.Call (.Name "range" p) [a, b] [] pos) (iRange2 fl) :=
  pi_w (pi_range2 hg hm h hs hs2) fun σ H R ⟨Hf, T, ρ, F, s, h⟩ => by
    refine ⟨Hf, T, ρ, F, s, ?_⟩
    unfold iRange2 at h
    cases q : fl ρ with
    | exc e ρ1 => rw [q] at h; exact h
    | stk => rw [q] at h; exact h
    | ok os ρ1 =>
      rw [q] at h
      intro vs H1 Hf1 l sm s1
      match os, h with
      | [.sh (.int i), .sh (.int j)], h =>
        match vs, l with
        | [v, w], _ =>
          by_cases hr : (rngOk i && rngOk j) = true
          · simp only [if_pos hr] at h
            have e1 := rp_int (SI.rp (T := (w, .sh (.int j)) :: T) s1)
            have e2 := rp_int (SI.rp (T := T) (SI.drop (T := (w, .sh (.int j)) :: T) s1))
            subst e1 e2
            rw [Bool.and_eq_true] at hr
            have h1 := of_decide_eq_true hr.1
            have h2 := of_decide_eq_true hr.2
            exact ⟨i, j, rfl, ⟨h1.1, h1.2, h2.1, h2.2⟩, h _ H1 Hf1 sm (SI.drop (T := T) (SI.drop (T := (V.int j, .sh (.int j)) :: T) s1)) walkD_range⟩
          · simp only [if_neg hr] at h

/-! ### for -/
def fgt : List Nat → Rho → Rho
  | [], ρ => ρ
  | i :: is, ρ => fgt is (ρ.set i none)
theorem SI.fgt {K : PySem.W.Frag} {Hf H : Hp} {T : Its} {F : Bs} {σ : St} : ∀ (is : List Nat) {ρ : Rho}, SI K Hf T ρ F σ H → SI K Hf T (fgt is ρ) F σ H
  | [], _, s => s
  | i :: is, _, s => SI.fgt is (s.forget i)
/-- fs: what is not asked again from turn to turn, nor behind the loop -/
def forL (fs : List Nat) (h : OV → Rho → Option Rho) (body : Rho → Out) : List PyData → Rho → Out
  | [], ρ => .next ρ
  | d :: ds, ρ => match h (.sh d) ρ with
    | none => .stk
    | some ρ1 => match body ρ1 with
      | .next ρ2 => forL fs h body ds (fgt fs ρ2)
      | .cnt ρ2 => forL fs h body ds (fgt fs ρ2)
      | .brk ρ2 => .next (fgt fs ρ2)
      | .ret o ρ2 => .ret o ρ2
      | .exc e ρ2 => .exc e ρ2
      | .stk => .stk
def sFor (fs : List Nat) (fi : Rho → ReI) (h : OV → Rho → Option Rho) (body : Rho → Out) (ρ : Rho) : Out := match fi ρ with
  | .ok ds ρ1 => forL fs h body ds (fgt fs ρ1)
  | .exc e ρ1 => .exc e ρ1
  | .stk => .stk
theorem es_for {is : List Nat} {tg iter : Expr} {fi : Rho → ReI} {h : OV → Rho → Option Rho} {gb : Rho → Out} (fs : List Nat) (G : Good X W m) (hi : EvI X W tg iter fi) (hg : EvG X is tg h) (hb : EvB X W body gb)
    (hs : ∀ x, foldedSetIterable iter X.env x = pure x := by intro _; rfl) : EvS X W (.For tg iter body [] pos) (sFor fs fi h gb) := ps_w (ps_for G.po G.calm hi hg hb hs) fun D σ H ⟨Hf, ρ, F, s, hh⟩ => by
  refine ⟨Hf, [], ρ, F, s, ?_⟩
  unfold sFor at hh
  cases q : fi ρ with
  | exc e ρ1 => rw [q] at hh; exact fun H' Hf' cls d sm s' => hh σ H' Hf' cls d sm s'
  | stk => rw [q] at hh; exact hh
  | ok ds ρ1 =>
    rw [q] at hh
    intro J H1 Hf1 sm1 s1 wd
    refine ⟨fun i m σ H => m = ds.length - i ∧ i ≤ ds.length ∧ ∃ Hf2 ρ2, Same Hf1 Hf2 ∧ SI X.K Hf2 [] ρ2 F σ H ∧ PostS X W Hf2 F (forL fs h gb (ds.drop i) ρ2) D,
      ⟨ds.length, rfl, Nat.zero_le _, Hf1, fgt fs ρ1, Same.refl _, s1.fgt fs, PostS.mono sm1 hh⟩, ?_⟩
    rintro i m σ2 H2 ⟨rfl, hi, Hf2, ρ2, sm2, s2, h2⟩
    have ext : Ext Hf1 H2 := Same.ext sm2 s2.sub
    by_cases hlt : i < ds.length
    · have hdrop : ds.drop i = ds[i] :: ds.drop (i + 1) := List.drop_eq_getElem_cons hlt
      rw [hdrop] at h2
      refine .inr ⟨wd.goes i H2 hlt ext, fun σ' H' => ∃ Hf3 ρ3, Same Hf1 Hf3 ∧ SI X.K Hf3 [] ρ3 F σ' H' ∧ PostS X W Hf3 F (forL fs h gb (ds.drop (i + 1)) ρ3) D, fun σ' H' ⟨Hf3, ρ3, a1, a2, a3⟩ => ⟨ds.length - (i + 1), by omega, rfl, hlt, Hf3, ρ3, a1, a2, a3⟩, fun y H' hy => ?_⟩
      obtain ⟨d, hd, hy⟩ := wd.yields i H2 y H' hlt ext hy
      have ed : d = ds[i] := by
        rw [List.getElem?_eq_getElem hlt] at hd
        exact (Option.some.inj hd).symm
      subst ed
      have base : ∃ Hf3, Same Hf2 Hf3 ∧ SI X.K Hf3 [(y, .sh ds[i])] ρ2 F σ2 H' := by
        rcases hy with ⟨rfl, r⟩ | ⟨T, xs, es, rfl, hT, rfl, r, e⟩
        · exact ⟨Hf2, Same.refl _, s2.add (r.mono (.of sm2))⟩
        · obtain ⟨its, hs', s3⟩ := s2.ex
          obtain ⟨s4, sm4⟩ := s3.mkTup (r.mono (.of sm2)) hT
          rw [e]
          exact ⟨_, sm4, its, hs', s4⟩
      obtain ⟨Hf3, sm3, s3⟩ := base
      refine ⟨Hf3, [], ρ2, F, .sh ds[i], s3, ?_⟩
      unfold forL at h2
      cases q2 : h (.sh ds[i]) ρ2 with
      | none => rw [q2] at h2; exact h2
      | some ρ3 =>
        simp only [q2] at h2
        refine fun σ4 H4 Hf4 ew sm4 s4 => ⟨Hf4, ρ3, F, s4, ?_⟩
        have h4 := PostS.mono (sm3.trans sm4) h2
        cases q3 : gb ρ3 with
        | next ρ4 =>
          simp only [q3] at h4
          exact fun σ5 H5 Hf5 sm5 s5 => ⟨Hf5, _, (sm2.trans (sm3.trans sm4)).trans sm5, s5.fgt fs, PostS.mono sm5 h4⟩
        | cnt ρ4 =>
          simp only [q3] at h4
          exact fun σ5 H5 Hf5 sm5 s5 => ⟨Hf5, _, (sm2.trans (sm3.trans sm4)).trans sm5, s5.fgt fs, PostS.mono sm5 h4⟩
        | brk ρ4 =>
          simp only [q3] at h4
          exact fun σ5 H5 Hf5 sm5 s5 => h4 σ5 H5 Hf5 sm5 (s5.fgt fs)
        | ret o ρ4 => simp only [q3] at h4; exact h4
        | exc e ρ4 => simp only [q3] at h4; exact h4
        | stk => simp only [q3] at h4; exact h4
    · have e : i = ds.length := by omega
      subst e
      refine .inl ⟨wd.stops H2 ext, ?_⟩
      rw [List.drop_length] at h2
      exact h2 σ2 H2 Hf2 (Same.refl _) s2
end
end Ev
namespace Ev
open PySem PySem.Spec L2
open PyProof.Rows hiding St

/-! ### comprehensions -/
theorem Slots.congr : ∀ {σ σ' : St} {ρ : Rho} {its : Its}, Slots σ ρ its → σ'.length = σ.length → (∀ (i : Nat) (o : OV), ρ[i]? = some (some o) → σ'[i]? = σ[i]?) → Slots σ' ρ its
  | [], [], _, _, .nil, _, _ => .nil
  | _ :: σ, y :: σ', _, _, .no r, l, h => .no (r.congr (by simpa using l) fun i o q => by simpa using h (i + 1) o (by simpa using q))
  | _ :: σ, y :: σ', _, _, .yes r, l, h => by
    have h0 := h 0 _ rfl
    simp at h0
    subst h0
    exact .yes (r.congr (by simpa using l) fun i o q => by simpa using h (i + 1) o (by simpa using q))
theorem fgt_get : ∀ (is : List Nat) {ρ : Rho} {j : Nat} {o : OV}, (fgt is ρ)[j]? = some (some o) → j ∉ is
  | [], _, _, _, _ => by simp
  | i :: is, ρ, j, o, h => by
    have h1 := fgt_get is (ρ := ρ.set i none) h
    intro hm
    rcases List.mem_cons.mp hm with e | hm
    · subst e
      have : ∀ (is : List Nat) (ρ : Rho), (fgt is ρ)[j]? = some (some o) → ρ[j]? = some (some o) := by
        intro is
        induction is with
        | nil => intro ρ h; exact h
        | cons k is ih =>
          intro ρ h
          have := ih (ρ.set k none) h
          by_cases e : k = j
          · subst e
            by_cases hl : k < ρ.length
            · rw [List.getElem?_set_self hl] at this; cases this
            · rw [List.getElem?_eq_none (by simpa using hl)] at this; cases this
          · rw [List.getElem?_set_ne e] at this; exact this
      have h2 := this is (ρ.set j none) h
      by_cases hl : j < ρ.length
      · rw [List.getElem?_set_self hl] at h2; cases h2
      · rw [List.getElem?_eq_none (by simpa using hl)] at h2; cases h2
    · exact h1 hm
section
variable {K : PySem.W.Frag} {Hf H : Hp} {T : Its} {F : Bs} {σ σ' : St} {ρ : Rho} {is : List Nat} {i : Nat} {d : PyData}
theorem SI.rewipe (s : SI K Hf T (Ev.fgt is ρ) F σ H) (e : wipe σ' is = wipe σ is) : SI K Hf T (Ev.fgt is ρ) F σ' H := by
  obtain ⟨its, h, s⟩ := s.ex
  have hl : σ'.length = σ.length := by rw [← wipe_length σ' is, e, wipe_length]
  refine ⟨its, h.congr hl fun j o q => ?_, s⟩
  have hj := fgt_get is q
  have := congrArg (·[j]?) e
  simp only [wipe_get] at this
  rw [if_neg (fun z => hj z.1), if_neg (fun z => hj z.1)] at this
  exact this
theorem wipe_wipe (σ : St) (is : List Nat) : wipe (wipe σ is) is = wipe σ is := by
  apply List.ext_getElem?
  intro j
  rw [wipe_get, wipe_length, wipe_get]
  by_cases hj : j ∈ is ∧ j < σ.length
  · rw [if_pos hj, if_pos hj]
  · rw [if_neg hj, if_neg hj]
/-- a shared slot, read -/
theorem SI.look (s : SI K Hf T ρ F σ H) (h : ρ[i]? = some (some (.sh d))) : ∃ v, σ[i]? = some (some v) ∧ Rp K Hf v d := by
  obtain ⟨v, h1, s1, _⟩ := s.take h
  exact ⟨v, h1, s1.rp⟩
theorem SI.lay {v : V} (s : SI K Hf T ρ F σ H) (h : σ[i]? = some (some v)) (r : Rp K Hf v d) : SI K Hf T (ρ.set i (some (.sh d))) F σ H := by
  have := SI.put' i (s.add r)
  have e : σ.set i (some v) = σ := by
    apply List.ext_getElem?
    intro j
    by_cases e : i = j
    · subst e
      by_cases hl : i < σ.length
      · rw [List.getElem?_set_self hl, h]
      · rw [List.set_eq_of_length_le (by omega)]
    · rw [List.getElem?_set_ne e]
  rw [e] at this
  exact this
end
/-- the shared slots of a comprehension's own names, as they were -/
def relay : List Nat → Rho → Rho → Rho
  | [], _, ρ => ρ
  | i :: is, ρ0, ρ => match ρ0[i]? with
    | some (some (.sh d)) => relay is ρ0 (ρ.set i (some (.sh d)))
    | _ => relay is ρ0 ρ
theorem SI.relay {K : PySem.W.Frag} {Hf0 Hf H0 H : Hp} {T0 T : Its} {F0 F : Bs} {σ : St} {ρ0 : Rho} (s0 : SI K Hf0 T0 ρ0 F0 σ H0) (sm : Same Hf0 Hf) : ∀ (is : List Nat) {ρ : Rho}, SI K Hf T ρ F σ H → SI K Hf T (relay is ρ0 ρ) F σ H
  | [], _, s => s
  | i :: is, ρ, s => by
    unfold Ev.relay
    split
    · rename_i d q
      obtain ⟨v, h1, r⟩ := s0.look q
      exact SI.relay s0 sm is (s.lay h1 (r.mono (.of sm)))
    · exact SI.relay s0 sm is s
def tYesR (ρ : Rho) : ReB := .ok true ρ
def compL (vs : List Nat) (h : OV → Rho → Option Rho) (tt : Rho → ReB) (te : Rho → Re) : List PyData → Nat → Rho → ReL
  | [], _, ρ => .ok [] ρ
  | d :: ds, k, ρ => match h (.sh d) ρ with
    | none => .stk
    | some ρ1 => match tt ρ1 with
      | .ok true ρ2 => match te ρ2 with
        | .ok o ρ3 => if k < sizeLine then (match compL vs h tt te ds (k + 1) (fgt vs ρ3) with
          | .ok os ρ4 => .ok (o :: os) ρ4
          | _ => .stk) else .stk
        | _ => .stk
      | .ok false ρ2 => compL vs h tt te ds k (fgt vs ρ2)
      | _ => .stk
/-- vs: the slots of the comprehension's own names -/
def eLc (vs : List Nat) (fi : Rho → ReI) (h : OV → Rho → Option Rho) (tt : Rho → ReB) (te : Rho → Re) (ρ : Rho) : Re := match fi ρ with
  | .ok ds ρ1 => match compL vs h tt te ds 0 (fgt vs ρ1) with
    | .ok os ρ2 => .ok (.lst os) (relay vs ρ1 ρ2)
    | _ => .stk
  | .exc e ρ1 => .exc e ρ1
  | .stk => .stk
section
variable {X : Cx} {W : WX} {elt tg iter c : Expr} {ifs : List Expr} {scope : Scope} {own : List (Str × Nat)} {pos : Pos} {fi : Rho → ReI} {h : OV → Rho → Option Rho} {tt : Rho → ReB} {te : Rho → Re} {m : Nat}
def EvTs (X : Cx) (W : WX) (ifs : List Expr) (f : Rho → ReB) : Prop := PTs X ifs (tT X W f)
theorem pts_w {X : Cx} {e : List Expr} {t t' : TT} (h : PTs X e t) (hw : ∀ σ H Q, t' σ H Q → t σ H Q) : PTs X e t' := ⟨fun pins s σ H Q I h' => h.run pins s σ H Q I (hw σ H Q h')⟩
theorem ets_nil : EvTs X W [] tYesR := pts_w pts_nil fun σ H Q ⟨Hf, T, ρ, F, s, h⟩ => h H Hf (Same.refl _) s
theorem ets_one {f : Rho → ReB} (h : EvT X W c f) : EvTs X W [c] f := pts_one h
theorem lc_post (vs : List Nat) {σ : St} {H : Hp} {Q : VK} {Hf : Hp} {T : Its} {ρ : Rho} {F : Bs} (s : SI X.K Hf T ρ F σ H) (hh : PostE X W Hf T F σ (eLc vs fi h tt te ρ) Q) :
    tLc (tI X W fi) (tG X vs h) (tT X W0 tt) (tE X W0 te) vs σ H Q := by
  refine ⟨Hf, T, ρ, F, s, ?_⟩
  unfold eLc at hh
  cases q : fi ρ with
  | exc e ρ1 => rw [q] at hh; exact hh
  | stk => rw [q] at hh; exact hh
  | ok ds ρ1 =>
    rw [q] at hh
    simp only at hh
    intro J H1 Hf1 sm1 s1 wd D hD
    -- what is to come, from the i-th item on
    let Rest : Nat → List OV → Rho → Prop := fun i acc ρi => ∃ os ρe, compL vs h tt te (ds.drop i) acc.length ρi = .ok os ρe ∧ PostE X W Hf1 T F σ (.ok (.lst (acc ++ os)) (relay vs ρ1 ρe)) Q
    have start : Rest 0 [] (fgt vs ρ1) := by
      cases q2 : compL vs h tt te ds 0 (fgt vs ρ1) with
      | ok os ρe => rw [q2] at hh; exact ⟨os, ρe, q2, PostE.mono sm1 hh⟩
      | exc e ρe => rw [q2] at hh; exact hh.elim
      | stk => rw [q2] at hh; exact hh.elim
    refine ⟨fun i m H => m = ds.length - i ∧ i ≤ ds.length ∧ ∃ Hf2 ρ2 acc, Same Hf1 Hf2 ∧ SI X.K Hf2 ((.ref D, .lst acc) :: T) (fgt vs ρ2) F (wipe σ vs) H ∧ Rest i acc (fgt vs ρ2), ⟨ds.length, rfl, Nat.zero_le _, Hf1, ρ1, [], Same.refl _, ?_, start⟩, ?_⟩
    · have s2 := (s1.fgt vs).rewipe (wipe_wipe σ vs)
      obtain ⟨its, hs, s3⟩ := s2.ex
      exact ⟨its, hs, SX.newOwn (C := []) s3 hD fun bs hb => by cases hb; exact .lst .nil⟩
    rintro i m H2 ⟨rfl, hi, Hf2, ρ2, acc, sm2, s2, rest⟩
    have ext : Ext Hf1 H2 := Same.ext sm2 s2.sub
    by_cases hlt : i < ds.length
    · have hdrop : ds.drop i = ds[i] :: ds.drop (i + 1) := List.drop_eq_getElem_cons hlt
      obtain ⟨os, ρe, hc, hp⟩ := rest
      rw [hdrop] at hc
      unfold compL at hc
      refine .inr ⟨wd.goes i H2 hlt ext, fun H' => ∃ Hf3 ρ3 acc', Same Hf1 Hf3 ∧ SI X.K Hf3 ((.ref D, .lst acc') :: T) (fgt vs ρ3) F (wipe σ vs) H' ∧ Rest (i + 1) acc' (fgt vs ρ3), fun H' ⟨Hf3, ρ3, acc', a1, a2, a3⟩ => ⟨ds.length - (i + 1), by omega, rfl, hlt, Hf3, ρ3, acc', a1, a2, a3⟩, fun y H' hy => ?_⟩
      obtain ⟨d, hd, hy⟩ := wd.yields i H2 y H' hlt ext hy
      have ed : d = ds[i] := by
        rw [List.getElem?_eq_getElem hlt] at hd
        exact (Option.some.inj hd).symm
      subst ed
      have base : ∃ Hf3, Same Hf2 Hf3 ∧ SI X.K Hf3 ((y, .sh ds[i]) :: (.ref D, .lst acc) :: T) (fgt vs ρ2) F (wipe σ vs) H' := by
        rcases hy with ⟨rfl, r⟩ | ⟨U, xs, es, rfl, hU, rfl, r, e⟩
        · exact ⟨Hf2, Same.refl _, s2.add (r.mono (.of sm2))⟩
        · obtain ⟨its, hs', s3⟩ := s2.ex
          obtain ⟨s4, sm4⟩ := s3.mkTup (r.mono (.of sm2)) hU
          rw [e]
          exact ⟨_, sm4, its, hs', s4⟩
      obtain ⟨Hf3, sm3, s3⟩ := base
      refine ⟨Hf3, (.ref D, .lst acc) :: T, fgt vs ρ2, F, .sh ds[i], s3, ?_⟩
      cases q2 : h (.sh ds[i]) (fgt vs ρ2) with
      | none => simp only [q2] at hc; cases hc
      | some ρ3 =>
        simp only [q2] at hc
        refine fun σ4 H4 Hf4 ew sm4 s4 => ⟨by rw [ew, wipe_wipe], Hf4, (.ref D, .lst acc) :: T, ρ3, F, s4, ?_⟩
        have ew' : wipe (wipe σ vs) vs = wipe σ4 vs := ew.symm
        cases q3 : tt ρ3 with
        | exc e ρ4 => simp only [q3] at hc; cases hc
        | stk => simp only [q3] at hc; cases hc
        | ok b ρ4 =>
          intro H5 Hf5 sm5 s5
          cases b with
          | false =>
            simp only [q3] at hc
            rw [if_neg Bool.false_ne_true]
            exact ⟨Hf5, ρ4, acc, sm2.trans (sm3.trans (sm4.trans sm5)), (s5.fgt vs).rewipe ew', os, ρe, hc, hp⟩
          | true =>
            simp only [q3] at hc
            rw [if_pos rfl]
            refine ⟨Hf5, (.ref D, .lst acc) :: T, ρ4, F, s5, ?_⟩
            cases q4 : te ρ4 with
            | exc e ρ5 => simp only [q4] at hc; cases hc
            | stk => simp only [q4] at hc; cases hc
            | ok o ρ5 =>
              simp only [q4] at hc
              by_cases hz : acc.length < sizeLine
              · rw [if_pos hz] at hc
                cases q5 : compL vs h tt te (ds.drop (i + 1)) (acc.length + 1) (fgt vs ρ5) with
                | exc e ρ6 => simp only [q5] at hc; cases hc
                | stk => simp only [q5] at hc; cases hc
                | ok os' ρ6 =>
                  simp only [q5] at hc
                  cases hc
                  intro v H6 Hf6 sm6 s6
                  obtain ⟨its, hs, s7⟩ := s6.ex
                  have s8 := s7.perm (List.Perm.swap (.ref D, .lst acc) (v, o) (T ++ its))
                  obtain ⟨xs, hl, hDD, s9⟩ := s8.push
                  refine ⟨xs, hDD, by rw [hl]; exact hz, Hf6, ρ5, acc ++ [o], sm2.trans (sm3.trans (sm4.trans (sm5.trans sm6))), SI.rewipe (SI.fgt vs ⟨its, hs, s9⟩) ew', os', ρe, ?_, ?_⟩
                  · rw [List.length_append]; exact q5
                  · rw [List.append_assoc]; exact hp
              · rw [if_neg hz] at hc; cases hc
    · have e : i = ds.length := by omega
      subst e
      refine .inl ⟨wd.stops H2 ext, ?_⟩
      obtain ⟨os, ρe, hc, hp⟩ := rest
      rw [List.drop_length] at hc
      cases hc
      rw [List.append_nil] at hp
      have s3 : SI X.K Hf2 ((.ref D, .lst acc) :: T) (fgt vs ρ2) F σ H2 := s2.rewipe (wipe_wipe σ vs).symm
      exact hp (.ref D) H2 Hf2 sm2 (SI.relay s1 sm2 vs s3)
theorem ev_lc (G : Good X W m) (hi : EvI X W tg iter fi) (ok : BlkOk X.N X.env.scope scope own)
    (hg : ∀ (s : Shared) (H : Hp) (C : Addr) (cl : List (Str × Addr)) (fp : List Addr), EvG (X.blk s H scope (compEnvC scope cl C X.env) fp) (own.map fun p : Str × Nat => p.2) tg h)
    (ht : ∀ (s : Shared) (H : Hp) (C : Addr) (cl : List (Str × Addr)) (fp : List Addr), EvTs (X.blk s H scope (compEnvC scope cl C X.env) fp) W0 ifs tt)
    (he : ∀ (s : Shared) (H : Hp) (C : Addr) (cl : List (Str × Addr)) (fp : List Addr), EvE (X.blk s H scope (compEnvC scope cl C X.env) fp) W0 elt te) (hs : ∀ x, foldedSetIterable iter X.env x = pure x := by intro _; rfl) :
    EvE X W (.ListComp elt [⟨tg, iter, ifs, 0⟩] scope pos) (eLc (own.map fun p : Str × Nat => p.2) fi h tt te) :=
  pe_w (pe_lc (g := tG X (own.map fun p : Str × Nat => p.2) h) (tt := tT X W0 tt) (te := tE X W0 te) G.calm G.nd hi ok hg ht he hs) fun σ H Q ⟨Hf, T, ρ, F, s, hh⟩ => lc_post _ s hh
/-- y = [..] -/
theorem es_setLc {i : Nat} {y : Str} {py spos : Pos} (G : Good X W m) (hy : X.N[i]? = some y) (hyl : X.env.scope.names.lookup y = some .local)
    (hsw : swapsWith (.ListComp elt [⟨tg, iter, ifs, 0⟩] scope pos) (some (.Name y py)) spos.line X.env = pure true) (hi : EvI X W tg iter fi) (ok : BlkOk X.N X.env.scope scope own)
    (hg : ∀ (s : Shared) (H : Hp) (C : Addr) (cl : List (Str × Addr)) (fp : List Addr), EvG (X.blk s H scope (compEnvC scope cl C X.env) fp) (own.map fun p : Str × Nat => p.2) tg h)
    (ht : ∀ (s : Shared) (H : Hp) (C : Addr) (cl : List (Str × Addr)) (fp : List Addr), EvTs (X.blk s H scope (compEnvC scope cl C X.env) fp) W0 ifs tt)
    (he : ∀ (s : Shared) (H : Hp) (C : Addr) (cl : List (Str × Addr)) (fp : List Addr), EvE (X.blk s H scope (compEnvC scope cl C X.env) fp) W0 elt te) (hs : ∀ x, foldedSetIterable iter X.env x = pure x := by intro _; rfl) :
    EvS X W (.Assign [.Name y py] (.ListComp elt [⟨tg, iter, ifs, 0⟩] scope pos) spos) (sSet i (eLc (own.map fun p : Str × Nat => p.2) fi h tt te)) :=
  ps_w (ps_setLc (g := tG X (own.map fun p : Str × Nat => p.2) h) (tt := tT X W0 tt) (te := tE X W0 te) G.calm G.nd hy hyl hsw hi ok hg ht he hs) fun D σ H ⟨Hf, ρ, F, s, hh⟩ => by
    have z : tE X W (eLc (own.map fun p : Str × Nat => p.2) fi h tt te) σ H fun v H1 => gName i v σ H1 D.nx :=
      ⟨Hf, [], ρ, F, s, PostE.bindS hh fun o ρ1 v H1 Hf1 sm s1 h1 => h1 _ H1 Hf1 (Same.refl _) (s1.put' i)⟩
    obtain ⟨Hf', T', ρ', F', s', h'⟩ := z
    exact lc_post _ s' h'
end
end Ev
namespace Ev
open PySem PySem.Spec L2
open PyProof.Rows hiding St

/-! ### an owned list or dict is changed -/
def putG {κ α : Type} [DecidableEq κ] : List (κ × α) → κ → α → List (κ × α)
  | [], k, x => [(k, x)]
  | (k', y) :: r, k, x => if k' = k then (k', x) :: r else (k', y) :: putG r k x
theorem putK_eq {κ : Type} [DecidableEq κ] (k : κ) (v : V) : ∀ {kvs : List (κ × V)}, (kvs.map (·.1)).Nodup → putK kvs k v = putG kvs k v
  | [], _ => rfl
  | (k', y) :: r, n => by
    have n' := List.nodup_cons.mp (show (k' :: r.map (·.1)).Nodup from n)
    have ih := putK_eq k v n'.2
    unfold putG
    by_cases e : k' = k
    · subst e
      rw [if_pos rfl]
      unfold putK
      rw [if_pos (by simp)]
      rw [List.map_cons, if_pos rfl]
      have : r.map (fun kv : κ × V => if kv.1 = k' then (kv.1, v) else kv) = r := by
        conv => rhs; rw [← List.map_id r]
        refine List.map_congr_left fun p hp => ?_
        rw [if_neg]
        · rfl
        · intro z; exact n'.1 (by rw [← z]; exact List.mem_map.mpr ⟨p, hp, rfl⟩)
      rw [this]
    · rw [if_neg e, ← ih]
      unfold putK
      by_cases h : (r.any fun kv => decide (kv.1 = k)) = true
      · rw [if_pos h, if_pos (by rw [List.any_cons, h, Bool.or_true]), List.map_cons, if_neg e]
      · rw [if_neg h, if_neg (by rw [List.any_cons, decide_eq_false e, Bool.false_or]; exact h)]
        rfl
section
variable {K : PySem.W.Frag} {Hf H : Hp} {its : Its} {F bs : Bs} {v : V} {o : OV} {a : Addr}
theorem ownL_put {κ : Type} [DecidableEq κ] (k : κ) {b : Bs} (hv : Own K Hf v o b) : ∀ {ks : List κ} {vs : List V} {os : List OV} {bs : Bs}, ks.Nodup → ks.length = vs.length → OwnL K Hf vs os bs →
    ∃ (ks' : List κ) (vs' : List V) (os' : List OV) (cs dr : Bs), ks'.Nodup ∧ (∀ x, x ∈ ks' ↔ x ∈ ks ∨ x = k) ∧ ks'.length = vs'.length ∧ putG (ks.zip vs) k v = ks'.zip vs' ∧ putG (ks.zip os) k o = ks'.zip os' ∧ OwnL K Hf vs' os' cs ∧ (cs ++ dr).Perm (bs ++ b)
  | [], [], _, _, _, _, .nil => ⟨[k], [v], [o], b ++ [], [], by simp, by simp, rfl, rfl, rfl, .cons hv .nil, by simp⟩
  | k' :: ks, w :: vs, p :: os, _, n, l, .cons (b1 := b1) (b2 := b2) h r => by
    have n' := List.nodup_cons.mp n
    by_cases e : k' = k
    · subst e
      refine ⟨k' :: ks, v :: vs, o :: os, b ++ b2, b1, n, fun x => by simp [or_comm], l, ?_, ?_, .cons hv r, ?_⟩
      · simp [putG]
      · simp [putG]
      · have h1 : (b ++ b2 ++ b1).Perm (b1 ++ (b ++ b2)) := List.perm_append_comm
        have h2 : (b1 ++ (b ++ b2)).Perm (b1 ++ (b2 ++ b)) := List.Perm.append_left _ List.perm_append_comm
        have h3 := h1.trans h2
        simpa [List.append_assoc] using h3
    · obtain ⟨ks', vs', os', cs, dr, m, mm, l', e1, e2, h', q⟩ := ownL_put k hv (ks := ks) (vs := vs) (os := os) n'.2 (by simpa using l) r
      refine ⟨k' :: ks', w :: vs', p :: os', b1 ++ cs, dr, ?_, fun x => ?_, by simp [l'], ?_, ?_, .cons h h', ?_⟩
      · exact List.nodup_cons.mpr ⟨fun z => by
          rcases (mm k').mp z with z | z
          · exact n'.1 z
          · exact e z, m⟩
      · rw [List.mem_cons, List.mem_cons, mm x, or_assoc]
      · simp [putG, e, e1]
      · simp [putG, e, e2]
      · rw [List.append_assoc, List.append_assoc]
        exact q.append_left b1
theorem SX.setAt {os : List OV} {i : Nat} (hi : i < os.length) (s : SX K Hf ((.ref a, .lst os) :: (v, o) :: its) F H) : ∃ vs, vs.length = os.length ∧ H a = some (.lst vs) ∧ SX K Hf ((.ref a, .lst (os.set i o)) :: its) F (upd H a (.lst (vs.set i v))) := by
  obtain ⟨u, u', h1, ⟨vs, rfl, rfl, hl⟩, h2⟩ := SX.chg (C := [(v, o)]) (o' := .lst (os.set i o)) (fun u u' => ∃ vs, u = .lst vs ∧ u' = .lst (vs.set i v) ∧ vs.length = os.length) s (fun bs q => by
    cases q with
    | @lst _ vs _ b0 q =>
      refine ⟨_, _, rfl, fun c1 hc => ?_⟩
      cases hc with
      | @cons _ _ _ b _ hc hr =>
        cases hr
        obtain ⟨w, c0, d1, c2, _, rfl, _, f⟩ := q.split (List.getElem?_eq_getElem hi)
        refine ⟨.lst (vs.set i v), c0 ++ b ++ c2, d1, ?_, .lst (f o b v hc), vs, rfl, rfl, q.len⟩
        rw [List.append_nil]
        have h1 : (c0 ++ b ++ c2 ++ d1).Perm (c0 ++ (d1 ++ (c2 ++ b))) := by
          rw [List.append_assoc, List.append_assoc]
          refine List.Perm.append_left _ ?_
          have : (b ++ (c2 ++ d1)).Perm ((c2 ++ d1) ++ b) := List.perm_append_comm
          refine this.trans ?_
          rw [← List.append_assoc]
          exact List.Perm.append_right _ List.perm_append_comm
        simpa [List.append_assoc] using h1)
  exact ⟨vs, hl, h1, h2⟩
theorem SX.putDK {kvs : List (Key × OV)} (k : Key) (s : SX K Hf ((.ref a, .dk kvs) :: (v, o) :: its) F H) : ∃ kv, kv.length = kvs.length ∧ H a = some (.dK kv) ∧ SX K Hf ((.ref a, .dk (putG kvs k o)) :: its) F (upd H a (.dK (putK kv k v))) := by
  obtain ⟨u, u', h1, ⟨kv, rfl, rfl, hl⟩, h2⟩ := SX.chg (C := [(v, o)]) (o' := .dk (putG kvs k o)) (fun u u' => ∃ kv, u = .dK kv ∧ u' = .dK (putK kv k v) ∧ kv.length = kvs.length) s (fun bs q => by
    cases q with
    | @dk _ ks vs os b0 l nd q =>
      refine ⟨_, _, rfl, fun c1 hc => ?_⟩
      cases hc with
      | @cons _ _ _ b _ hc hr =>
        cases hr
        obtain ⟨ks', vs', os', cs, dr, m, _, l', e1, e2, h', qq⟩ := ownL_put k hc nd l q
        refine ⟨.dK (ks'.zip vs'), cs, dr, by simpa using qq, ?_, ks.zip vs, rfl, ?_, ?_⟩
        · rw [e2]; exact .dk l' m h'
        · rw [putK_eq k v (by rw [zip_fst_map (fun x => x) ks vs l]; simpa using nd), e1]
        · simp [l, q.len])
  exact ⟨kv, hl, h1, h2⟩
theorem SX.putDT {kvs : List (List Key × OV)} (k : List Key) (s : SX K Hf ((.ref a, .dt kvs) :: (v, o) :: its) F H) : ∃ kv, kv.length = kvs.length ∧ H a = some (.dT kv) ∧ SX K Hf ((.ref a, .dt (putG kvs k o)) :: its) F (upd H a (.dT (putK kv k v))) := by
  obtain ⟨u, u', h1, ⟨kv, rfl, rfl, hl⟩, h2⟩ := SX.chg (C := [(v, o)]) (o' := .dt (putG kvs k o)) (fun u u' => ∃ kv, u = .dT kv ∧ u' = .dT (putK kv k v) ∧ kv.length = kvs.length) s (fun bs q => by
    cases q with
    | @dt _ ks vs os b0 l nd q =>
      refine ⟨_, _, rfl, fun c1 hc => ?_⟩
      cases hc with
      | @cons _ _ _ b _ hc hr =>
        cases hr
        obtain ⟨ks', vs', os', cs, dr, m, _, l', e1, e2, h', qq⟩ := ownL_put k hc nd l q
        refine ⟨.dT (ks'.zip vs'), cs, dr, by simpa using qq, ?_, ks.zip vs, rfl, ?_, ?_⟩
        · rw [e2]; exact .dt l' m h'
        · rw [putK_eq k v (by rw [zip_fst_map (fun x => x) ks vs l]; simpa using nd), e1]
        · simp [l, q.len])
  exact ⟨kv, hl, h1, h2⟩
/-- the items ds are added behind -/
theorem SX.more {os : List OV} {ys : List V} {ds : List PyData} (s : SX K Hf ((.ref a, .lst os) :: its) F H) (r : RpAll K Hf ys ds) : ∃ vs, vs.length = os.length ∧ H a = some (.lst vs) ∧ SX K Hf ((.ref a, .lst (os ++ ds.map .sh)) :: its) F (upd H a (.lst (vs ++ ys))) := by
  obtain ⟨u, u', h1, ⟨vs, rfl, rfl, hl⟩, h2⟩ := SX.chg (C := []) (o' := .lst (os ++ ds.map .sh)) (fun u u' => ∃ vs, u = .lst vs ∧ u' = .lst (vs ++ ys) ∧ vs.length = os.length) s (fun bs q => by
    cases q with
    | @lst _ vs _ b0 q =>
      refine ⟨_, _, rfl, fun c1 hc => ?_⟩
      cases hc
      exact ⟨.lst (vs ++ ys), _, [], by simp, .lst (q.append (.of_rp r)), vs, rfl, rfl, q.len⟩)
  exact ⟨vs, hl, h1, h2⟩
/-- a list's items stand for themselves -/
theorem SX.unlist {os : List OV} (s : SX K Hf ((.ref a, .lst os) :: its) F H) : ∃ vs, vs.length = os.length ∧ H a = some (.lst vs) ∧ SX K Hf (vs.zip os ++ its) F H := by
  obtain ⟨⟨bs, h, n, al⟩, e⟩ := s
  cases h with
  | @cons _ _ _ b1 b2 h r =>
    cases h with
    | @lst _ vs _ b0 q =>
      refine ⟨vs, q.len, (al (a, .lst vs) (by simp)).1, ⟨b0 ++ b2, q.its.append r, ?_, fun p hp => al p ?_⟩, e⟩
      · have n' : (a :: ((b0 ++ b2 ++ F).map (·.1))).Nodup := by simpa using n
        exact (List.nodup_cons.mp n').2
      · have : p ∈ (a, HO.lst vs) :: (b0 ++ b2 ++ F) := List.mem_cons_of_mem _ hp
        simpa using this
theorem SX.kref {kvs : List (Key × OV)} (s : SX K Hf ((v, .dk kvs) :: its) F H) : ∃ a kv, v = .ref a ∧ H a = some (.dK kv) := by
  obtain ⟨⟨bs, h, n, al⟩, e⟩ := s
  cases h with
  | cons h r => cases h; exact ⟨_, _, rfl, (al _ (List.mem_append_left _ (List.mem_append_left _ List.mem_cons_self))).1⟩
theorem SX.tref {kvs : List (List Key × OV)} (s : SX K Hf ((v, .dt kvs) :: its) F H) : ∃ a kv, v = .ref a ∧ H a = some (.dT kv) := by
  obtain ⟨⟨bs, h, n, al⟩, e⟩ := s
  cases h with
  | cons h r => cases h; exact ⟨_, _, rfl, (al _ (List.mem_append_left _ (List.mem_append_left _ List.mem_cons_self))).1⟩
end

/-! ### methods that change their object -/
/-- o: the object, os: the arguments; the object behind, the answer -/
def OpM (K : PySem.W.Frag) (r : V → List V → Hp → VK → Prop) (g : OV → List OV → Option (OV × OV)) : Prop :=
  ∀ (Hf : Hp) (its : Its) (F : Bs) (H : Hp) (v : V) (o : OV) (vs : List V) (os : List OV) (o' res : OV) (Q : VK), vs.length = os.length → SX K Hf ((v, o) :: (vs.zip os ++ its)) F H → g o os = some (o', res) →
    (∀ x H' Hf', Same Hf Hf' → SX K Hf' ((x, res) :: (v, o') :: its) F H' → Q x H') → r v vs H Q
def ownT : OV → String
  | .lst _ => "list"
  | .dk _ => "dict"
  | .dt _ => "dict"
  | .sh _ => ""
theorem tyV_own {K : PySem.W.Frag} {Hf H : Hp} {its : Its} {F : Bs} {v : V} {o : OV} (s : SX K Hf ((v, o) :: its) F H) (h : ownT o ≠ "") : tyV K (ownT o) v H := by
  cases o with
  | sh d => exact absurd rfl h
  | lst os =>
    obtain ⟨a, rfl⟩ := s.lstRef
    obtain ⟨vs, _, h1⟩ := s.lstAt
    exact .inl ⟨rfl, vs, SqL.of h1⟩
  | dk kvs =>
    obtain ⟨a, kv, rfl, h1⟩ := s.kref
    exact .inr (.inr (.inl ⟨rfl, .inl ⟨kv, h1⟩⟩))
  | dt kvs =>
    obtain ⟨a, kv, rfl, h1⟩ := s.tref
    exact .inr (.inr (.inl ⟨rfl, .inr ⟨kv, h1⟩⟩))
def ofM (i : Nat) (g : OV → List OV → Option (OV × OV)) (os : List OV) (ρ : Rho) : Re := match ρ[i]? with
  | some (some o) => match g o os with
    | some (o', res) => .ok res (ρ.set i (some o'))
    | none => .stk
  | _ => .stk
def eMut (i : Nat) (T : String) (g : OV → List OV → Option (OV × OV)) (fl : Rho → ReL) (ρ : Rho) : Re := match ρ[i]? with
  | some (some o) => if ownT o = T then bindL (fl ρ) (ofM i g) else .stk
  | _ => .stk
section
variable {X : Cx} {W : WX} {e a b c : Expr} {es : List Expr} {f fa fb fk : Rho → Re} {fl : Rho → ReL} {pos apos cpos : Pos} {n m k : Nat} {x : Str} {name : Str} {T id : String} {r : V → List V → Hp → VK → Prop} {g : OV → List OV → Option (OV × OV)}
theorem mut_post {i : Nat} (ho : OpM X.K r g) {Hf : Hp} {T' : Its} {ρ : Rho} {F : Bs} {σ : St} {H : Hp} {Q : VK} {v : V} {vs : List V} {os : List OV} (hv : σ[i]? = some (some v)) (l : vs.length = os.length) (s : SI X.K Hf (vs.zip os ++ T') ρ F σ H) (h : PostE X W Hf T' F σ (ofM i g os ρ) Q) : r v vs H Q := by
  unfold ofM at h
  cases q : ρ[i]? with
  | none => rw [q] at h; exact h.elim
  | some y =>
    cases y with
    | none => rw [q] at h; exact h.elim
    | some o =>
      simp only [q] at h
      cases q2 : g o os with
      | none => simp only [q2] at h; exact h.elim
      | some p =>
        obtain ⟨o', res⟩ := p
        simp only [q2] at h
        obtain ⟨w, hw, s1, back⟩ := s.take q
        rw [hv] at hw
        obtain rfl : v = w := by injection hw with z; injection z
        obtain ⟨its, hs, s2⟩ := s1.ex
        have e1 : (v, o) :: (vs.zip os ++ T') ++ its = (v, o) :: (vs.zip os ++ (T' ++ its)) := by simp
        rw [e1] at s2
        refine ho Hf (T' ++ its) F H v o vs os o' res Q l s2 q2 fun y H' Hf' sm s3 => h y H' Hf' sm ?_
        have s4 : SX X.K Hf' ((v, o') :: (y, res) :: (T' ++ its)) F H' := s3.perm (List.Perm.swap _ _ _)
        have := SI.put' (T := (y, res) :: T') (o := o') (v := v) i ⟨its, hs, s4⟩
        have e2 : (ρ.set i none).set i (some o') = ρ.set i (some o') := by simp
        have e3 : σ.set i (some v) = σ := by
          apply List.ext_getElem?
          intro j
          by_cases e : i = j
          · subst e
            by_cases hl : i < σ.length
            · rw [List.getElem?_set_self hl, hv]
            · rw [List.set_eq_of_length_le (by omega)]
          · rw [List.getElem?_set_ne e]
        rw [e2, e3] at this
        exact this
/-- x.m(e, ..) -/
theorem ev_mut {i : Nat} (pa : PlainAttrs T) (slot : Slot T name id) (hty : typeOf (.builtin id) = pure (.type "method_descriptor")) (hm : MtR X id r) (ho : OpM X.K r g) (hT : T ≠ "") (hx : PE X b (tVar i)) (ha : EvL X W (e :: es) fl)
    (hp : PE X (.Call (.Attribute b name apos) (e :: es) [] cpos) (tBM X.K T r (tVar i) (tL X W fl))) : EvE X W (.Call (.Attribute b name apos) (e :: es) [] cpos) (eMut i T g fl) := pe_w hp fun σ H Q ⟨Hf, T', ρ, F, s, h⟩ => by
  unfold eMut at h
  cases q : ρ[i]? with
  | none => rw [q] at h; exact h.elim
  | some y =>
    cases y with
    | none => rw [q] at h; exact h.elim
    | some o =>
      simp only [q] at h
      by_cases ht : ownT o = T
      · rw [if_pos ht] at h
        obtain ⟨v, hv, s1, _⟩ := s.take q
        obtain ⟨its, hs, s2⟩ := s1.ex
        refine ⟨v, hv, ?_, Hf, T', ρ, F, s, PostL.bind h fun os ρ1 vs H1 Hf1 l sm s3 h1 => mut_post ho hv l s3 h1⟩
        have := tyV_own (its := T' ++ its) s2 (by rw [ht]; exact hT)
        rw [ht] at this
        exact this
      · rw [if_neg ht] at h; exact h.elim
/-- x.m() -/
theorem ev_mut0 {i : Nat} (ho : OpM X.K r g) (hT : T ≠ "") (hp : PE X (.Call (.Attribute b name apos) [] [] cpos) (tBM0 X.K T r (tVar i))) : EvE X W (.Call (.Attribute b name apos) [] [] cpos) (eMut i T g lNil) := pe_w hp fun σ H Q ⟨Hf, T', ρ, F, s, h⟩ => by
  unfold eMut at h
  cases q : ρ[i]? with
  | none => rw [q] at h; exact h.elim
  | some y =>
    cases y with
    | none => rw [q] at h; exact h.elim
    | some o =>
      simp only [q] at h
      by_cases ht : ownT o = T
      · rw [if_pos ht] at h
        obtain ⟨v, hv, s1, _⟩ := s.take q
        obtain ⟨its, hs, s2⟩ := s1.ex
        refine ⟨v, hv, ?_, mut_post (os := []) ho hv rfl s h⟩
        have := tyV_own (its := T' ++ its) s2 (by rw [ht]; exact hT)
        rw [ht] at this
        exact this
      · rw [if_neg ht] at h; exact h.elim
/-! append, extend, insert, pop -/
def mApp (o : OV) (os : List OV) : Option (OV × OV) := match o, os with
  | .lst xs, [y] => if xs.length < sizeLine then some (.lst (xs ++ [y]), .sh .none) else none
  | _, _ => none
theorem opm_app {K : PySem.W.Frag} : OpM K rAppend mApp := by
  intro Hf its F H v o vs os o' res Q l s h q
  unfold mApp at h
  split at h
  · rename_i xs y
    split at h
    · rename_i hz
      cases h
      match vs, l with
      | [w], _ =>
        obtain ⟨ad, rfl⟩ := s.lstRef
        obtain ⟨ws, hl, h1, s2⟩ := SX.push (its := its) s
        exact ⟨ad, ws, w, rfl, rfl, h1, by rw [hl]; exact hz, q _ _ _ (Same.refl _) (s2.add .non)⟩
    · cases h
  · cases h
def mExt (o : OV) (os : List OV) : Option (OV × OV) := match o, os with
  | .lst xs, [.lst ys] => if xs.length + ys.length ≤ sizeLine then some (.lst (xs ++ ys.map fun y => .sh (fz y)), .sh .none) else none
  | _, _ => none
theorem opm_ext {K : PySem.W.Frag} : OpM K rExtend mExt := by
  intro Hf its F H v o vs os o' res Q l s h q
  unfold mExt at h
  split at h
  · rename_i xs ys
    split at h
    · rename_i hz
      cases h
      match vs, l with
      | [w], _ =>
        obtain ⟨ad, rfl⟩ := s.lstRef
        have s1 : SX K Hf ((w, .lst ys) :: (V.ref ad, .lst xs) :: its) F H := s.perm (List.Perm.swap _ _ _)
        obtain ⟨bd, rfl⟩ := s1.lstRef
        obtain ⟨zs, hl2, h2, s3⟩ := s1.unlist
        obtain ⟨Hf', sm, ra, s5⟩ := SX.freezeAll (its := (V.ref ad, .lst xs) :: its) zs ys Hf hl2 s3
        obtain ⟨ws, hl, h1, s4⟩ := s5.more ra
        rw [List.map_map] at s4
        exact ⟨ad, bd, ws, zs, rfl, rfl, h1, h2, by rw [hl, hl2]; exact hz, q _ _ _ sm (s4.add .non)⟩
    · cases h
  · cases h
def mIns (o : OV) (os : List OV) : Option (OV × OV) := match o, os with
  | .lst xs, [.sh (.int i), .sh d] => if xs.length < sizeLine ∧ 0 ≤ i ∧ i < 2 ^ 63 ∧ xs.all (fun x => match x with | .sh _ => true | _ => false) = true then some (.lst (xs.take i.toNat ++ .sh d :: xs.drop i.toNat), .sh .none) else none
  | _, _ => none
def mPop (o : OV) (os : List OV) : Option (OV × OV) := match o, os with
  | .lst xs, [] => match xs.getLast? with
    | some (.sh d) => some (.lst xs.dropLast, .sh d)
    | _ => none
  | _, _ => none
end
end Ev
namespace Ev
open PySem PySem.Spec L2
open PyProof.Rows hiding St

theorem opm_ins {K : PySem.W.Frag} : OpM K (fun x vs H Q => ∃ (l : Addr) (xs : List V) (i : Int) (y : V), x = .ref l ∧ vs = [.int i, y] ∧ H l = some (.lst xs) ∧ xs.length < sizeLine ∧ 0 ≤ i ∧ i < 2 ^ 63 ∧ Q .non (upd H l (.lst (xs.take i.toNat ++ [y] ++ xs.drop i.toNat)))) mIns := by
  intro Hf its F H v o vs os o' res Q l s h q
  unfold mIns at h
  split at h
  · rename_i xs i d
    split at h
    · rename_i hc
      cases h
      obtain ⟨hz, h0, h1, hall⟩ := hc
      match vs, l with
      | [w, y], _ =>
        obtain ⟨ad, rfl⟩ := s.lstRef
        have sw : SX K Hf ((w, .sh (.int i)) :: (.ref ad, .lst xs) :: (y, .sh d) :: its) F H := s.perm (List.Perm.swap _ _ _)
        have ew := rp_int sw.rp
        subst ew
        have sy : SX K Hf ((y, .sh d) :: (.ref ad, .lst xs) :: its) F H := sw.drop.perm (List.Perm.swap _ _ _)
        have ry := sy.rp
        obtain ⟨u, u', h2, ⟨ws, rfl, rfl, hl⟩, h3⟩ := SX.chg (C := []) (o' := .lst (xs.take i.toNat ++ .sh d :: xs.drop i.toNat)) (fun u u' => ∃ ws, u = .lst ws ∧ u' = .lst (ws.take i.toNat ++ [y] ++ ws.drop i.toNat) ∧ ws.length = xs.length) sy.drop (fun bs qq => by
          cases qq with
          | @lst _ ws _ b0 qq =>
            refine ⟨_, _, rfl, fun c1 hc => ?_⟩
            cases hc
            have sh : ∀ (ws : List V) (xs : List OV) (b0 : Bs), xs.all (fun x => match x with | .sh _ => true | _ => false) = true → OwnL K Hf ws xs b0 → ∃ ds : List PyData, xs = ds.map .sh := by
              intro ws xs
              induction xs generalizing ws with
              | nil => intro _ _ _; exact ⟨[], rfl⟩
              | cons x xs ih =>
                intro b0 ha hb
                rw [List.all_cons, Bool.and_eq_true] at ha
                cases hb with
                | cons hx hr =>
                  obtain ⟨ds, rfl⟩ := ih _ _ ha.2 hr
                  cases x with
                  | sh d => exact ⟨d :: ds, rfl⟩
                  | lst _ => exact absurd ha.1 Bool.false_ne_true
                  | dk _ => exact absurd ha.1 Bool.false_ne_true
                  | dt _ => exact absurd ha.1 Bool.false_ne_true
            obtain ⟨ds, rfl⟩ := sh _ _ _ hall qq
            obtain ⟨ra, rfl⟩ := qq.to_rp
            refine ⟨.lst (ws.take i.toNat ++ [y] ++ ws.drop i.toNat), [], [], by simp, ?_, ws, rfl, rfl, qq.len⟩
            have rr := ((ra.take i.toNat).append (.cons ry .nil)).append (ra.drop i.toNat)
            have := OwnL.of_rp rr
            simp only [List.map_append, List.map_take, List.map_drop, List.map_cons, List.map_nil] at this
            rw [List.append_assoc] at this
            exact .lst (by simpa using this))
        exact ⟨ad, ws, i, y, rfl, rfl, h2, by rw [hl]; exact hz, h0, h1, q _ _ _ (Same.refl _) (h3.add .non)⟩
    · cases h
  · cases h
theorem opm_pop {K : PySem.W.Frag} : OpM K rPop mPop := by
  intro Hf its F H v o vs os o' res Q l s h q
  unfold mPop at h
  split at h
  · rename_i xs
    split at h
    · rename_i d hd
      cases h
      match vs, l with
      | [], _ =>
        have s : SX K Hf ((v, .lst xs) :: its) F H := s
        obtain ⟨ad, rfl⟩ := s.lstRef
        have hx : xs = xs.dropLast ++ [.sh d] := by
          obtain ⟨ys, hy⟩ := List.getLast?_eq_some_iff.mp hd
          rw [hy, List.dropLast_concat]
        obtain ⟨u, u', h2, ⟨ws, y, rfl, rfl, hy, hr⟩, h3⟩ := SX.chg (C := []) (o' := .lst xs.dropLast) (fun u u' => ∃ ws y, u = .lst ws ∧ u' = .lst ws.dropLast ∧ ws[ws.length - 1]? = some y ∧ Rp K Hf y d) s (fun bs qq => by
          cases qq with
          | @lst _ ws _ b0 qq =>
            refine ⟨_, _, rfl, fun c1 hc => ?_⟩
            cases hc
            have split : ∀ (os : List OV) (ws : List V) (b0 : Bs), OwnL K Hf ws (os ++ [.sh d]) b0 → OwnL K Hf ws.dropLast os b0 ∧ ∃ y, ws[ws.length - 1]? = some y ∧ Rp K Hf y d := by
              intro os
              induction os with
              | nil =>
                intro ws b0 hb
                cases hb with
                | cons hx hr => cases hr; cases hx with | sh r => exact ⟨.nil, _, rfl, r⟩
              | cons o os ih =>
                intro ws b0 hb
                cases hb with
                | @cons w ws _ _ b1 b2 hx hr =>
                  obtain ⟨i1, y, i2, i3⟩ := ih _ _ hr
                  have hne : ws ≠ [] := fun e => by subst e; cases os <;> cases hr
                  refine ⟨?_, y, ?_, i3⟩
                  · rw [List.dropLast_cons_of_ne_nil hne]; exact .cons hx i1
                  · have : ws.length ≠ 0 := fun e => hne (List.eq_nil_of_length_eq_zero e)
                    obtain ⟨k, hk⟩ : ∃ k, ws.length = k + 1 := ⟨ws.length - 1, by omega⟩
                    rw [hk] at i2
                    rw [List.length_cons, hk]
                    simpa using i2
            rw [hx] at qq
            obtain ⟨q1, y, q2, q3⟩ := split _ _ _ qq
            exact ⟨.lst ws.dropLast, b0, [], by simp, .lst q1, ws, y, rfl, rfl, q2, q3⟩)
        exact ⟨ad, ws, y, rfl, rfl, h2, hy, q _ _ _ (Same.refl _) (h3.add hr)⟩
    · cases h
  · cases h
section
variable {X : Cx} {W : WX} {e a b c : Expr} {es : List Expr} {f fa fb fk : Rho → Re} {fl : Rho → ReL} {p pos apos cpos : Pos} {n m k : Nat} {x : Str}
theorem es_app {i : Nat} (hx : PE X b (tVar i)) (he : EvE X W e f) (hbase : attributeBase b "append" X.env (eval b X.env) = eval b X.env := by rfl) (hst : starEach [e] X.env = (false, eval e X.env) :: starEach [] X.env := by rfl)
    (hp : PE X (.Call (.Attribute b "append" apos) [e] [] cpos) (tBM X.K "list" rAppend (tVar i) (tL X W (lCons f lNil)))) : EvE X W (.Call (.Attribute b "append" apos) [e] [] cpos) (eMut i "list" mApp (lCons f lNil)) :=
  ev_mut (name := "append") PySem.F.plainAttrs_list PySem.F.slot_list_append PySem.F.type_list_append mt_append opm_app (by decide) hx (el_cons he el_nil hst) hp

/-! ### slices -/
def tPo (X : Cx) (W : WX) : Option (Rho → Re) → TO
  | none => tNoPart
  | some f => tPart (tE X W f)
def EvO (X : Cx) (W : WX) (e : Option Expr) (f : Option (Rho → Re)) : Prop := PO X e (tPo X W f)
theorem eo_none : EvO X W none none := po_none
theorem eo_some (h : EvE X W e f) : EvO X W (some e) (some f) := po_some h
def partR (f : Option (Rho → Re)) (ρ : Rho) (k : Option Int → Rho → Re) : Re := match f with
  | none => k none ρ
  | some f => bindE (f ρ) fun o ρ1 => match o with
    | .sh (.int i) => k (some i) ρ1
    | _ => .stk
theorem part_post {fo : Option (Rho → Re)} {Hf : Hp} {T T' : Its} {ρ : Rho} {F : Bs} {σ : St} {H : Hp} {Q : VK} {kk : Option Int → Rho → Re} {Q1 : Option Int → Hp → Prop} (s : SI X.K Hf T' ρ F σ H) (h : PostE X W Hf T F σ (partR fo ρ kk) Q)
    (hk : ∀ i ρ1 H1 Hf1, Same Hf Hf1 → SI X.K Hf1 T' ρ1 F σ H1 → PostE X W Hf1 T F σ (kk i ρ1) Q → Q1 i H1) : tPo X W fo σ H Q1 := by
  cases fo with
  | none => exact hk none ρ H Hf (Same.refl _) s h
  | some f =>
    refine ⟨Hf, T', ρ, F, s, PostE.bind h fun o ρ1 v H1 Hf1 sm s1 h1 => ?_⟩
    cases o with
    | sh d =>
      cases d with
      | int i =>
        have e := rp_int s1.rp
        subst e
        exact ⟨i, rfl, hk (some i) ρ1 H1 Hf1 sm s1.drop h1⟩
      | _ => exact h1.elim
    | _ => exact h1.elim
def cutD {α : Type} (xs : List α) (lo hi : Option Int) : List α := (xs.drop (HT.sIx xs.length 0 lo)).take (HT.sIx xs.length xs.length hi - HT.sIx xs.length 0 lo)
theorem rpAll_cut {K : PySem.W.Frag} {H : Hp} {vs : List V} {ds : List PyData} (r : RpAll K H vs ds) (lo hi : Option Int) : RpAll K H (cutV vs lo hi) (cutD ds lo hi) := by
  unfold cutV cutD
  rw [r.len]
  exact (r.drop _).take _
def gSl (a : OV) (lo hi : Option Int) : Option OV := match fz a with
  | .list ds => some (.lst ((cutD ds lo hi).map .sh))
  | .tuple ds => some (.sh (.tuple (cutD ds lo hi)))
  | .str z => if z.length ≤ sizeLine then some (.sh (.str (cutS z lo hi))) else none
  | _ => none
def eSl (fa : Rho → Re) (lo hi : Option (Rho → Re)) (ρ : Rho) : Re := bindE (fa ρ) fun a ρ1 => partR lo ρ1 fun l ρ2 => partR hi ρ2 fun h ρ3 => ofO (gSl a l h) ρ3
theorem ev_sl {lo hi : Option Expr} {fl fh : Option (Rho → Re)} {p2 : Pos} (ha : EvE X W a fa) (hl : EvO X W lo fl) (hh : EvO X W hi fh) : EvE X W (.Subscript a (.Slice lo hi none p2) pos) (eSl fa fl fh) :=
  pe_w (pe_slice (sl_list.or (sl_tupA.or sl_str)) ha hl hh) fun σ H Q ⟨Hf, T, ρ, F, s, h⟩ => by
    refine ⟨Hf, T, ρ, F, s, PostE.bind h fun o ρ1 v H1 Hf1 sm s1 h1 => ?_⟩
    refine part_post s1 h1 fun l ρ2 H2 Hf2 sm2 s2 h2 => ?_
    refine part_post s2 h2 fun u ρ3 H3 Hf3 sm3 s3 h3 => ?_
    obtain ⟨Hf4, sm4, s4⟩ := s3.freeze
    unfold gSl at h3
    cases hd : fz o with
    | list ds =>
      rw [hd] at s4
      simp only [hd, ofO] at h3
      obtain ⟨ad, xs, rfl, t1, r1⟩ := s4.rp.sqL
      refine .inl ⟨ad, xs, rfl, s4.sub.sqL t1, fun q hq => ?_⟩
      obtain ⟨its, hs, s5⟩ := s4.drop.ex
      exact h3 _ _ _ sm4 ⟨its, hs, s5.mkLst (rpAll_cut r1 l u) hq⟩
    | tuple ds =>
      rw [hd] at s4
      simp only [hd, ofO] at h3
      obtain ⟨ad, xs, rfl, t1, r1⟩ := s4.rp.sqT
      refine .inr (.inl ⟨ad, xs, rfl, s4.sub.sqT t1, fun hw => ?_, fun hw q hq => ?_⟩)
      · have e : cutD ds l u = ds := by
          unfold cutD
          rw [← r1.len, hw.1, hw.2, List.drop_zero, Nat.sub_zero, r1.len, List.take_length]
        rw [e] at h3
        exact h3 _ _ _ sm4 s4
      · obtain ⟨its, hs, s5⟩ := s4.drop.ex
        obtain ⟨s6, sm6⟩ := s5.mkTup (rpAll_cut r1 l u) hq
        exact h3 _ _ _ (sm4.trans sm6) ⟨its, hs, s6⟩
    | str z =>
      rw [hd] at s4
      simp only [hd] at h3
      by_cases hz : z.length ≤ sizeLine
      · rw [if_pos hz] at h3
        have e := rp_str s4.rp
        subst e
        exact .inr (.inr ⟨z, rfl, hz, h3 _ _ _ sm4 (s4.drop.add (.str _))⟩)
      · rw [if_neg hz] at h3; exact h3.elim
    | _ => simp only [hd, ofO] at h3; exact h3.elim
/-- x[::-1] -/
def dRev : PyData → Option OV
  | .list ds => some (.lst (ds.reverse.map .sh))
  | _ => none
theorem ev_rev {k : Nat} {p1 p2 p3 : Pos} (ha : EvE X W a fa) : EvE X W (.Subscript a (.Slice none none (some (.UnaryOp .USub (.Constant (.int 1) k p1) p2)) p3) pos) (eUn (fun o => dRev (fz o)) fa) :=
  pe_w (pe_revL ha) fun σ H Q ⟨Hf, T, ρ, F, s, h⟩ => ⟨Hf, T, ρ, F, s, PostE.bind h fun o ρ1 v H1 Hf1 sm s1 h1 => by
    obtain ⟨Hf2, sm2, s2⟩ := s1.freeze
    cases hd : fz o with
    | list ds =>
      rw [hd] at s2
      simp only [hd, dRev, ofO] at h1
      obtain ⟨ad, xs, rfl, t1, r1⟩ := s2.rp.sqL
      refine ⟨ad, xs, rfl, s2.sub.sqL t1, fun q hq => ?_⟩
      obtain ⟨its, hs, s5⟩ := s2.drop.ex
      exact h1 _ _ _ sm2 ⟨its, hs, s5.mkLst r1.reverse hq⟩
    | _ => simp only [hd, dRev, ofO] at h1; exact h1.elim⟩

/-! ### displays of dicts -/
theorem ev_dnewK : EvE X W (.Dict [] [] pos) fun ρ => .ok (.dk []) ρ := pe_w pe_dnewK fun σ H Q ⟨Hf, T, ρ, F, s, h⟩ q hq => by
  obtain ⟨its, hs, s2⟩ := s.ex
  exact h _ _ _ (Same.refl _) ⟨its, hs, SX.newOwn (C := []) s2 hq fun bs hb => by cases hb; exact .dk (ks := []) (vs := []) (os := []) rfl List.nodup_nil .nil⟩
theorem ev_dnewT : EvE X W (.Dict [] [] pos) fun ρ => .ok (.dt []) ρ := pe_w pe_dnewT fun σ H Q ⟨Hf, T, ρ, F, s, h⟩ q hq => by
  obtain ⟨its, hs, s2⟩ := s.ex
  exact h _ _ _ (Same.refl _) ⟨its, hs, SX.newOwn (C := []) s2 hq fun bs hb => by cases hb; exact .dt (ks := []) (vs := []) (os := []) rfl List.nodup_nil .nil⟩
end
end Ev
namespace Ev
open PySem PySem.Spec L2
open PyProof.Rows hiding St

/-! ### stores by place or key -/
def setO (c : OV) (k : PyData) (o : OV) : Option OV := match c with
  | .lst os => match k with
    | .int j => (ixN os.length j).map fun j => .lst (os.set j o)
    | _ => none
  | .dk kvs => match asDK k with
    | some (.inl q) => if kvs.length < sizeLine then some (.dk (putG kvs q o)) else none
    | _ => none
  | .dt kvs => match asDK k with
    | some (.inr q) => if kvs.length < sizeLine ∧ fineK (.inr q) = true then some (.dt (putG kvs q o)) else none
    | _ => none
  | .sh _ => none
def rSetA : TSet := fun o i v H Q => rSetL o i v H Q ∨ ∃ a H', o = .ref a ∧ DPut H a i v H' ∧ Q H'
theorem set_any {X : Cx} (hu : X.A.units + 1 < cLine) : PSet X rSetA := fun pins s σ H o i v ov iv u Q I ro ri rv h => by
  rcases h with h | ⟨a, H', e, g, q⟩
  · exact set_list pins s σ H o i v ov iv u Q I ro ri rv h
  · subst e
    cases ro
    exact d_setItem hu I g ri rv fun s' I' => ⟨H', I', q⟩
theorem ixN_lt {n : Nat} {i : Int} {j : Nat} (h : ixN n i = some j) : j < n := (ixN_seq h).2.1
/-- the store on what is owned; y: the key -/
theorem SX.setO {K : PySem.W.Frag} {Hf H : Hp} {its : Its} {F : Bs} {v w y : V} {c c' o : OV} {k : PyData} {Q : Hp → Prop} (s : SX K Hf ((v, c) :: (w, o) :: its) F H) (r : Rp K H y k) (h : Ev.setO c k o = some c')
    (q : ∀ H', SX K Hf ((v, c') :: its) F H' → Q H') : rSetA v y w H Q := by
  unfold Ev.setO at h
  cases c with
  | sh d => cases h
  | lst os =>
    obtain ⟨a, rfl⟩ := s.lstRef
    cases k with
    | int j =>
      obtain ⟨n, hn, rfl⟩ := Option.map_eq_some_iff.mp h
      have e := rp_int r
      subst e
      obtain ⟨vs, hl, h1, s2⟩ := SX.setAt (its := its) (ixN_lt hn) s
      exact .inl ⟨a, vs, j, n, rfl, rfl, h1, by rw [hl]; exact hn, q _ s2⟩
    | _ => cases h
  | dk kvs =>
    simp only at h
    split at h
    · rename_i key hk
      split at h
      · rename_i hz
        cases h
        obtain ⟨a, _, rfl, _⟩ := s.kref
        have ek := asDK_inl hk
        subst ek
        have ey := rp_key r
        subst ey
        obtain ⟨kv, hl, h1, s2⟩ := SX.putDK (its := its) key s
        exact .inr ⟨a, _, rfl, .inl ⟨kv, key, h1, rfl, by rw [hl]; exact hz, rfl⟩, q _ s2⟩
      · cases h
    · cases h
  | dt kvs =>
    simp only at h
    split at h
    · rename_i key hk
      split at h
      · rename_i hz
        cases h
        obtain ⟨a, _, rfl, _⟩ := s.tref
        have ek := asDK_inr hk
        subst ek
        obtain ⟨b, rfl, hb⟩ := rp_keyT r hz.2
        obtain ⟨kv, hl, h1, s2⟩ := SX.putDT (its := its) key s
        exact .inr ⟨a, _, rfl, .inr ⟨kv, key, b, h1, rfl, hb, by rw [hl]; exact hz.1, rfl⟩, q _ s2⟩
      · cases h
    · cases h
theorem set_same {σ : St} {i : Nat} {v : V} (h : σ[i]? = some (some v)) : σ.set i (some v) = σ := by
  apply List.ext_getElem?
  intro j
  by_cases e : i = j
  · subst e
    by_cases hl : i < σ.length
    · rw [List.getElem?_set_self hl, h]
    · rw [List.set_eq_of_length_le (by omega)]
  · rw [List.getElem?_set_ne e]
def ofSt (i : Nat) (k o : OV) (ρ : Rho) : Out := match ρ[i]? with
  | some (some c) => match setO c (fz k) o with
    | some c' => .next (ρ.set i (some c'))
    | none => .stk
  | _ => .stk
def sSetIx (i : Nat) (f fk : Rho → Re) (ρ : Rho) : Out := bindS (f ρ) fun o ρ1 => if (match ρ1[i]? with | some (some _) => true | _ => false) = true then bindS (fk ρ1) fun k ρ2 => ofSt i k o ρ2 else .stk
section
variable {X : Cx} {W : WX} {e a b c : Expr} {es : List Expr} {f fa fb fk : Rho → Re} {fl : Rho → ReL} {p p2 pos apos cpos : Pos} {n m : Nat} {x : Str}
/-- x[k] = e -/
theorem es_setIx {i : Nat} (G : Good X W m) (hx : PE X a (tVar i)) (hk : EvE X W b fk) (he : EvE X W e f)
    (ha : ∀ v, assign (.Subscript a b p) X.env v = (do
      let ov ← holding [v] (eval a X.env)
      let iv ← holding [v, ov] (eval b X.env)
      standAt p
      holding [v, ov, iv] (setItem ov iv v)
      release [v, ov, iv] []) := by intro _; rfl)
    (hs : swapsWithSole [.Subscript a b p] e pos.line X.env = pure false := by rfl) (hw : swappedStores [.Subscript a b p] e X.env = pure none := by rfl)
    (h1 : (assignEach [.Subscript a b p] X.env).map (·.2) = [assign (.Subscript a b p) X.env] := by rfl) : EvS X W (.Assign [.Subscript a b p] e pos) (sSetIx i f fk) :=
  ps_w (ps_asg he (pg_sub hx hk (set_any (by have := G.hu; omega)) ha) hs hw h1) fun D σ H ⟨Hf, ρ, F, s, hh⟩ => by
    refine ⟨Hf, [], ρ, F, s, PostE.bindS hh fun o ρ1 w H1 Hf1 sm1 s1 h1 => ?_⟩
    cases q0 : ρ1[i]? with
    | none => simp [q0] at h1; exact h1.elim
    | some y0 =>
      cases y0 with
      | none => simp [q0] at h1; exact h1.elim
      | some c0 =>
        simp only [q0] at h1
        rw [if_pos trivial] at h1
        obtain ⟨v, hv, _, _⟩ := s1.take q0
        refine ⟨v, hv, Hf1, [(w, o)], ρ1, F, s1, PostE.bindS h1 fun k ρ2 y H2 Hf2 sm2 s2 h2 => ?_⟩
        unfold ofSt at h2
        cases q : ρ2[i]? with
        | none => simp only [q] at h2; exact h2.elim
        | some y1 =>
          cases y1 with
          | none => simp only [q] at h2; exact h2.elim
          | some cc =>
            simp only [q] at h2
            cases q3 : setO cc (fz k) o with
            | none => simp only [q3] at h2; exact h2.elim
            | some c' =>
              simp only [q3] at h2
              obtain ⟨v', hv', s3, _⟩ := s2.take q
              rw [hv] at hv'
              obtain rfl : v = v' := by injection hv' with z; injection z
              have r : Rp X.K H2 y (fz k) := s2.rdH
              obtain ⟨its, hs, s4⟩ := s3.ex
              have s5 : SX X.K Hf2 ((v, cc) :: (w, o) :: its) F H2 := SX.drop (s4.perm (List.Perm.swap _ _ _))
              refine SX.setO (its := its) s5 r q3 fun H' s6 => ?_
              refine h2 σ H' Hf2 (Same.refl _) ?_
              have := SI.put' (T := []) i ⟨its, hs, s6⟩
              rw [set_same hv] at this
              simpa using this

/-! ### what lies within what is owned -/
def subO (c : OV) (k : PyData) : Option OV := match c with
  | .lst os => match k with
    | .int j => (ixN os.length j).bind fun j => os[j]?
    | _ => none
  | .dk kvs => match asDK k with
    | some (.inl q) => (kvs.find? fun p => decide (p.1 = q)).map (·.2)
    | _ => none
  | .dt kvs => match asDK k with
    | some (.inr q) => if fineK (.inr q) = true then (kvs.find? fun p => decide (p.1 = q)).map (·.2) else none
    | _ => none
  | .sh _ => none
def putO (c : OV) (k : PyData) (o : OV) : OV := match c with
  | .lst os => match k with
    | .int j => match ixN os.length j with
      | some j => .lst (os.set j o)
      | none => c
    | _ => c
  | .dk kvs => match asDK k with
    | some (.inl q) => .dk (putG kvs q o)
    | _ => c
  | .dt kvs => match asDK k with
    | some (.inr q) => .dt (putG kvs q o)
    | _ => c
  | .sh _ => c
end
theorem find_at {κ : Type} [DecidableEq κ] (k : κ) : ∀ {ks : List κ} {os : List OV} {o : OV}, ks.Nodup → ((ks.zip os).find? fun p => decide (p.1 = k)).map (·.2) = some o → ∃ j, ks[j]? = some k ∧ os[j]? = some o ∧ ∀ {β : Type} (ys : List β) (y : β), ys.length = os.length → putG (ks.zip ys) k y = ks.zip (ys.set j y) ∧ (ks.length = os.length → ((ks.zip ys).find? fun p => decide (p.1 = k)).map (·.2) = ys[j]?)
  | [], _, _, _, h => by simp at h
  | _ :: _, [], _, _, h => by simp at h
  | k' :: ks, o' :: os, o, n, h => by
    have n' := List.nodup_cons.mp n
    by_cases e : k' = k
    · subst e
      simp at h
      subst h
      refine ⟨0, rfl, rfl, fun ys y hl => ?_⟩
      cases ys with
      | nil => simp at hl
      | cons z ys => simp [putG]
    · rw [List.zip_cons_cons, List.find?_cons] at h
      simp only [decide_eq_false e] at h
      obtain ⟨j, h1, h2, h3⟩ := find_at k (ks := ks) (os := os) n'.2 h
      refine ⟨j + 1, by simpa using h1, by simpa using h2, fun ys y hl => ?_⟩
      cases ys with
      | nil => simp at hl
      | cons z ys =>
        obtain ⟨a1, a2⟩ := h3 ys y (by simpa using hl)
        refine ⟨by simp [putG, e, a1], fun hk => ?_⟩
        rw [List.zip_cons_cons, List.find?_cons]
        simp only [decide_eq_false e]
        rw [a2 (by simpa using hk)]
        simp
section
variable {K : PySem.W.Frag} {Hf H : Hp} {its : Its} {F : Bs} {v y : V} {c o : OV} {k : PyData}
theorem OwnL.split2 : ∀ {vs : List V} {os : List OV} {bs : Bs} {i : Nat} {o : OV}, OwnL K Hf vs os bs → os[i]? = some o →
    ∃ v b0 b1 b2, vs[i]? = some v ∧ bs = b0 ++ b1 ++ b2 ∧ Own K Hf v o b1 ∧ (∀ Hf' o' b', Ext Hf Hf' → Own K Hf' v o' b' → OwnL K Hf' vs (os.set i o') (b0 ++ b' ++ b2))
  | _, _, _, _, _, .nil, e => by simp at e
  | _, _, _, 0, _, .cons (b1 := b1) (b2 := b2) h r, e => by
    simp at e; subst e
    exact ⟨_, [], b1, b2, rfl, by simp, h, fun Hf' o' b' ex q => by simpa using OwnL.cons q (r.mono ex)⟩
  | _, _, _, i + 1, o, .cons (b1 := c1) (b2 := c2) h r, e => by
    obtain ⟨v, b0, b1, b2, e1, e2, q, f⟩ := OwnL.split2 (i := i) (o := o) r (by simpa using e)
    refine ⟨v, c1 ++ b0, b1, b2, by simpa using e1, by rw [e2]; simp, q, fun Hf' o' b' ex q' => ?_⟩
    have := OwnL.cons (h.mono ex) (f Hf' o' b' ex q')
    simpa using this
/-- a part of what is owned comes to the front; the rest is framed -/
theorem SX.focusAt {a : Addr} {u : HO} {vs : List V} {os : List OV} {j : Nat} {G : OV → OV} {F0 : Bs}
    (s : ∃ b0 b2, OwnL K Hf vs os b0 ∧ OwnI K Hf its b2 ∧ ((((a, u) :: b0) ++ b2 ++ F0).map (·.1)).Nodup ∧ (∀ p ∈ ((a, u) :: b0) ++ b2 ++ F0, H p.1 = some p.2 ∧ Hf p.1 = none)) (e : Ext Hf H) (hj : os[j]? = some o)
    (mk : ∀ Hf' o' b', OwnL K Hf' vs (os.set j o') b' → Own K Hf' (.ref a) (G o') ((a, u) :: b')) :
    ∃ w F1, vs[j]? = some w ∧ SX K Hf ((w, o) :: its) (F1 ++ F0) H ∧ ∀ Hf' H' its' o', Same Hf Hf' → SX K Hf' ((w, o') :: its') (F1 ++ F0) H' → SX K Hf' ((.ref a, G o') :: its') F0 H' := by
  obtain ⟨b0, b2, hos, hits, n, al⟩ := s
  obtain ⟨w, c0, c1, c2, hw, rfl, ho, f⟩ := hos.split2 hj
  have z0 : ∀ d1 d2 : Bs, ((a, u) :: (c0 ++ d1 ++ c2) ++ d2 ++ F0).Perm (d1 ++ d2 ++ ((a, u) :: (c0 ++ c2) ++ F0)) := fun d1 d2 => by
    have z1 : ((a, u) :: (c0 ++ d1 ++ c2)).Perm (d1 ++ ((a, u) :: (c0 ++ c2))) := by
      refine List.Perm.trans ?_ List.perm_middle.symm
      refine List.Perm.cons _ ?_
      rw [List.append_assoc]
      exact List.perm_append_comm_assoc _ _ _
    have q1 : ((a, u) :: (c0 ++ d1 ++ c2) ++ d2).Perm (d1 ++ d2 ++ ((a, u) :: (c0 ++ c2))) := by
      refine (z1.append_right d2).trans ?_
      rw [List.append_assoc, List.append_assoc]
      exact List.Perm.append_left _ List.perm_append_comm
    have := q1.append_right F0
    simpa [List.append_assoc] using this
  refine ⟨w, (a, u) :: (c0 ++ c2), hw, ⟨⟨c1 ++ b2, .cons ho hits, nodup_perm (z0 c1 b2) n, fun p hp => al p ((z0 c1 b2).mem_iff.mpr hp)⟩, e⟩, fun Hf' H' its' o' sm s' => ?_⟩
  obtain ⟨⟨bs', hI', n', al'⟩, e'⟩ := s'
  cases hI' with
  | @cons _ _ _ d1 d2 ho' hits' =>
    exact ⟨⟨((a, u) :: (c0 ++ d1 ++ c2)) ++ d2, .cons (mk Hf' o' _ (f Hf' o' d1 (.of sm) ho')) hits', nodup_perm (z0 d1 d2).symm n', fun p hp => al' p ((z0 d1 d2).mem_iff.mp hp)⟩, e'⟩
theorem SX.focus (s : SX K Hf ((v, c) :: its) F H) (r : Rp K H y k) (h : subO c k = some o) :
    ∃ w F1, (∀ Q : VK, Q w H → rSub K v y H Q) ∧ SX K Hf ((w, o) :: its) (F1 ++ F) H ∧ ∀ Hf' H' its' o', Same Hf Hf' → SX K Hf' ((w, o') :: its') (F1 ++ F) H' → SX K Hf' ((v, putO c k o') :: its') F H' := by
  obtain ⟨⟨bs, hI, n, al⟩, e⟩ := s
  cases hI with
  | @cons _ _ _ b1 b2 hv hits =>
  unfold subO at h
  cases c with
  | sh d => cases h
  | lst os =>
    cases hv with
    | @lst a vs _ b0 hos =>
    cases k with
    | int i =>
      simp only at h
      obtain ⟨j, hj, ho⟩ := Option.bind_eq_some_iff.mp h
      obtain ⟨w, F1, hw, s1, back⟩ := SX.focusAt (G := fun o' => .lst (os.set j o')) ⟨b0, b2, hos, hits, n, al⟩ e ho (fun Hf' o' b' q => .lst q)
      have ey := rp_int r
      subst ey
      refine ⟨w, F1, fun Q q => ?_, s1, fun Hf' H' its' o' sm s' => ?_⟩
      · refine .inl (.inl ⟨a, vs, i, w, rfl, rfl, SqL.of (al _ (List.mem_append_left _ (List.mem_append_left _ List.mem_cons_self))).1, ?_, q⟩)
        unfold atI
        rw [hos.len, hj]
        exact hw
      · have := back Hf' H' its' o' sm s'
        show SX K Hf' ((V.ref a, putO (.lst os) (.int i) o') :: its') F H'
        unfold putO
        simp only [hj]
        exact this
    | _ => cases h
  | dk kvs =>
    cases hv with
    | @dk a ks vs os b0 l nd hos =>
    simp only at h
    split at h
    · rename_i key hk
      obtain ⟨j, hj1, hj2, hf⟩ := find_at key nd h
      have ek := asDK_inl hk
      subst ek
      have ey := rp_key r
      subst ey
      obtain ⟨w, F1, hw, s1, back⟩ := SX.focusAt (G := fun o' => .dk (ks.zip (os.set j o'))) ⟨b0, b2, hos, hits, n, al⟩ e hj2 (fun Hf' o' b' q => .dk l nd q)
      refine ⟨w, F1, fun Q q => ?_, s1, fun Hf' H' its' o' sm s' => ?_⟩
      · refine .inr ⟨a, w, rfl, .inl ⟨_, key, .inl (al _ (List.mem_append_left _ (List.mem_append_left _ List.mem_cons_self))).1, rfl, ?_⟩, q⟩
        have := (hf vs w (by rw [hos.len])).2 (by rw [l, hos.len])
        unfold valV
        rw [this, hw]
      · have := back Hf' H' its' o' sm s'
        show SX K Hf' ((V.ref a, putO (.dk (ks.zip os)) (kD key) o') :: its') F H'
        unfold putO
        simp only [asDK_kD]
        rw [(hf os o' rfl).1]
        exact this
    · cases h
  | dt kvs =>
    cases hv with
    | @dt a ks vs os b0 l nd hos =>
    simp only at h
    split at h
    · rename_i key hk
      split at h
      · rename_i hfine
        obtain ⟨j, hj1, hj2, hf⟩ := find_at key nd h
        have ek := asDK_inr hk
        subst ek
        obtain ⟨b, rfl, hb⟩ := rp_keyT r hfine
        obtain ⟨w, F1, hw, s1, back⟩ := SX.focusAt (G := fun o' => .dt (ks.zip (os.set j o'))) ⟨b0, b2, hos, hits, n, al⟩ e hj2 (fun Hf' o' b' q => .dt l nd q)
        refine ⟨w, F1, fun Q q => ?_, s1, fun Hf' H' its' o' sm s' => ?_⟩
        · refine .inr ⟨a, w, rfl, .inr ⟨_, key, b, .inl (al _ (List.mem_append_left _ (List.mem_append_left _ List.mem_cons_self))).1, rfl, hb, ?_⟩, q⟩
          have := (hf vs w (by rw [hos.len])).2 (by rw [l, hos.len])
          unfold valV
          rw [this, hw]
        · have := back Hf' H' its' o' sm s'
          show SX K Hf' ((V.ref a, putO (.dt (ks.zip os)) (ktD key) o') :: its') F H'
          unfold putO
          simp only [asDK_ktD]
          rw [(hf os o' rfl).1]
          exact this
      · cases h
    · cases h
end

/-! ### x[k].m(e, ..) -/
def isNo (ρ : Rho) (i : Nat) : Bool := match ρ[i]? with
  | some none => true
  | _ => false
def isOv (ρ : Rho) (i : Nat) : Bool := match ρ[i]? with
  | some (some _) => true
  | _ => false
theorem isNo_iff {ρ : Rho} {i : Nat} (h : isNo ρ i = true) : ρ[i]? = some none := by
  unfold isNo at h
  split at h
  · assumption
  · cases h
theorem isOv_iff {ρ : Rho} {i : Nat} (h : isOv ρ i = true) : ∃ o, ρ[i]? = some (some o) := by
  unfold isOv at h
  split at h
  · exact ⟨_, by assumption⟩
  · cases h
def ofN (i : Nat) (c : OV) (k : PyData) (g : OV → List OV → Option (OV × OV)) (o : OV) : ReL → Re
  | .ok os ρ => match g o os with
    | some (o', res) => if isNo ρ i = true then .ok res (ρ.set i (some (putO c k o'))) else .stk
    | none => .stk
  | _ => .stk
def eMutS (i : Nat) (T : String) (g : OV → List OV → Option (OV × OV)) (fk : Rho → Re) (fl : Rho → ReL) (ρ : Rho) : Re := if isOv ρ i = true then
    bindE (fk ρ) fun k ρ1 => match ρ1[i]? with
    | some (some c) => match subO c (fz k) with
      | some o => if ownT o = T then ofN i c (fz k) g o (fl (ρ1.set i none)) else .stk
      | none => .stk
    | _ => .stk
  else .stk
section
variable {X : Cx} {W : WX} {e a b c : Expr} {es : List Expr} {f fa fb fk : Rho → Re} {fl : Rho → ReL} {p p2 pos apos cpos : Pos} {n m : Nat} {x : Str} {name : Str} {T id : String} {r : V → List V → Hp → VK → Prop} {g : OV → List OV → Option (OV × OV)}
theorem ev_mutS {i : Nat} (ho : OpM X.K r g) (hT : T ≠ "") (hp : PE X (.Call (.Attribute (.Subscript a b p) name apos) (e :: es) [] cpos) (tBM X.K T r (tOp (rSub X.K) (tVar i) (tE X W fk)) (tL X W fl))) :
    EvE X W (.Call (.Attribute (.Subscript a b p) name apos) (e :: es) [] cpos) (eMutS i T g fk fl) := pe_w hp fun σ H Q ⟨Hf, T', ρ, F, s, h⟩ => by
  unfold eMutS at h
  by_cases hov : isOv ρ i = true
  case neg => rw [if_neg hov] at h; exact h.elim
  rw [if_pos hov] at h
  obtain ⟨o0, q0⟩ := isOv_iff hov
  obtain ⟨v, hv, _, _⟩ := s.take q0
  refine ⟨v, hv, Hf, T', ρ, F, s, PostE.bind h fun k ρ1 y H1 Hf1 sm1 s1 h1 => ?_⟩
  split at h1
  · rename_i c q1
    split at h1
    · rename_i o q2
      split at h1
      · rename_i ht
        obtain ⟨v', hv', s2, _⟩ := s1.take q1
        rw [hv] at hv'
        obtain rfl : v = v' := by injection hv' with z; injection z
        have r : Rp X.K H1 y (fz k) := s1.rdH
        obtain ⟨its, hs, s3⟩ := s2.ex
        have s4 : SX X.K Hf1 ((v, c) :: (T' ++ its)) F H1 := SX.drop (s3.perm (List.Perm.swap _ _ _))
        obtain ⟨w, F1, rd, s5, back⟩ := SX.focus s4 r q2
        refine rd _ ⟨?_, Hf1, (w, o) :: T', ρ1.set i none, F1 ++ F, ⟨its, hs, s5⟩, ?_⟩
        · have := tyV_own (its := T' ++ its) s5 (by rw [ht]; exact hT)
          rw [ht] at this
          exact this
        · cases q3 : fl (ρ1.set i none) with
          | exc e ρ2 => rw [q3] at h1; exact h1.elim
          | stk => rw [q3] at h1; exact h1.elim
          | ok os ρ2 =>
            rw [q3] at h1
            intro vs H2 Hf2 l sm2 s6
            unfold ofN at h1
            simp only at h1
            cases q4 : g o os with
            | none => simp only [q4] at h1; exact h1.elim
            | some p =>
              obtain ⟨o', res⟩ := p
              simp only [q4] at h1
              split at h1
              · rename_i hno
                have hno := isNo_iff hno
                have hlt : i < ρ2.length := (List.getElem?_eq_some_iff.mp hno).1
                obtain ⟨its2, hs2, s7⟩ := s6.ex
                have e1 : (vs.zip os ++ (w, o) :: T') ++ its2 = vs.zip os ++ (w, o) :: (T' ++ its2) := by simp
                rw [e1] at s7
                have s8 : SX X.K Hf2 ((w, o) :: (vs.zip os ++ (T' ++ its2))) (F1 ++ F) H2 := s7.perm List.perm_middle
                refine ho Hf2 (T' ++ its2) (F1 ++ F) H2 w o vs os o' res Q l s8 q4 fun x H3 Hf3 sm3 s9 => h1 x H3 Hf3 (sm2.trans sm3) ?_
                have s10 : SX X.K Hf3 ((w, o') :: ((x, res) :: T' ++ its2)) (F1 ++ F) H3 := s9.perm (List.Perm.swap _ _ _)
                have s11 := back Hf3 H3 _ o' (sm2.trans sm3) s10
                have := SI.put (T := (x, res) :: T') (o := putO c (fz k) o') (v := v) (i := i) (ρ := ρ2) ⟨its2, hs2, s11⟩ hlt
                rw [set_same hv] at this
                exact this
              · exact h1.elim
      · exact h1.elim
    · exact h1.elim
  · exact h1.elim
end
end Ev
namespace Ev
open PySem PySem.Spec L2
open PyProof.Rows hiding St

/-! ### min(xs, key=len) -/
def minAt (ls : List Nat) : Nat := argBest (fun i j => decide ((ls.getD i 0 : Int) < (ls.getD j 0 : Nat))) (ls.length - 1)
def rMinLen (K : PySem.W.Frag) : List V → Hp → VK → Prop := fun vs H Q => ∃ (a : Addr) (xs : List V) (ls : List Nat), vs = [.ref a] ∧ SqL K H a xs ∧ 0 < xs.length ∧ ls.length = xs.length ∧
  (∀ (i : Nat) v, xs[i]? = some v → ∃ p ys, v = .ref p ∧ SqL K H p ys ∧ ls.getD i 0 = ys.length) ∧ ∀ v, xs[minAt ls]? = some v → Q v H
section
variable {X : Cx} {W : WX} {e a b c : Expr} {es : List Expr} {t : TA} {p p2 pos kp : Pos} {n m : Nat}
theorem paired_at {α β : Type} {R : α → β → Prop} : ∀ {xs : List α} {ys : List β} {i : Nat} {y : β}, Paired R xs ys → ys[i]? = some y → ∃ x, xs[i]? = some x ∧ R x y
  | _, _, _, _, .nil, h => by simp at h
  | _, _, 0, _, .cons h _, e => by simp at e; subst e; exact ⟨_, rfl, h⟩
  | _, _, i + 1, _, .cons _ r, e => by
    obtain ⟨x, h1, h2⟩ := paired_at (i := i) r (by simpa using e)
    exact ⟨x, by simpa using h1, h2⟩
theorem call_minLen (hc : X.calm = true) {pins : List (Addr × Obj)} {s : Shared} {σ : St} {H : Hp} {vs : List V} {us : List Value} {Q : VK} (I : Inv X pins σ H s) (r : Vals vs us) (h : rMinLen X.K vs H Q) :
    wpAny (model X.prog X.w) X.A (call (.builtin "min") us [(Str.ofString "key", .builtin "len")]) (EP X pins σ Q) X.xe s := by
  obtain ⟨a, xs, ls, rfl, hs, hne, hll, hk, q⟩ := h
  rw [Vals.ref1 r]
  obtain ⟨its, rv, hl, hz⟩ := I.list hs
  have hlen : its.length = xs.length := rv.length.symm
  have hh : X.A.handled = none := I.ok.hd hc
  refine PySem.call_min_walkKB (PySem.W.iter_listW (A := X.A.in1) hh hl.isList fun s₂ es W st hfp hw hk2 => ?_)
  refine ⟨_, _, _, _, _, _, _, (fun s' => ∃ h' tk, s' = { s with heap := h', toks := tk } ∧ ∀ b o, s.heap.get? b = some o → h'.get? b = some o), (fun i k _ => ∃ t, k = .int (ls.getD i 0 : Nat) t), (fun i j => decide ((ls.getD i 0 : Int) < (ls.getD j 0 : Nat))), rfl, W, st, hfp, by simp only [List.size_toArray]; omega, ?_, ?_, ?_⟩
  · subst es
    refine ⟨fun s1 s' hJ m => ?_, fun i k s1 s' hV _ => hV, fun i v s1 o Q E hi hP hJ hst hS q => ?_, fun i j ki kj s1 Q E hJ hi hj q => ?_⟩
    · obtain ⟨h1, tk, rfl, hk1⟩ := hJ
      refine ⟨s'.heap, s'.toks, ?_, fun b ob eb => m.heap b ob (fun hb => ?_) (hk1 b ob eb)⟩
      · obtain ⟨hp, g, d, tk', os⟩ := s'
        have h1 : g = s.gens := m.gens
        have h2 : d = s.drawn := m.drawn
        have h3 : os = s.os := m.os
        subst h1
        subst h2
        subst h3
        rfl
      · have hlt := Heap.lt_size eb
        rcases List.mem_cons.mp hb with e | hb
        · have : b = (s.heap.objs.size + 1) := by rw [e]; exact Heap.size_push _ _
          rw [this] at hlt
          exact Nat.lt_irrefl _ (Nat.lt_of_succ_lt hlt)
        · have := List.mem_singleton.mp hb
          exact Nat.lt_irrefl _ (this ▸ hlt)
    · obtain ⟨h1, tk, rfl, hk1⟩ := hJ
      have hP' : its[i]? = some v := by simpa using hP
      obtain ⟨x, hx, rx⟩ := paired_at rv hP'
      obtain ⟨pp, ys, rfl, hq, hly⟩ := hk i x hx
      cases rx
      obtain ⟨jts, r', pl, hz'⟩ := I.list hq
      have hlen2 := r'.length
      have pl1 : h1.IsList pp jts.toArray := by
        obtain ⟨o1, e1, e2⟩ := pl.isList
        exact ⟨o1, hk1 _ _ e1, e2⟩
      have hn := line63
      refine Calls.call_len_list pl1 (by simp only [List.size_toArray] <;> omega) (q _ _ ⟨h1, _, rfl, hk1⟩ ?_ hS ⟨_, by rw [hly, List.size_toArray, hlen2]⟩ fun j k' hv => hv)
      exact hst
    · obtain ⟨t1, rfl⟩ := hi
      obtain ⟨t2, rfl⟩ := hj
      exact CmpOf.ints_lt (P := fun i v => ∃ t, v = .int (ls.getD i 0 : Nat) t) (fun i => ((ls.getD i 0 : Nat) : Int)) (fun i v h => h) i j _ _ _ _ _ ⟨t1, rfl⟩ ⟨t2, rfl⟩ q
  · exact ⟨s₂.heap, s₂.toks, by subst es; rfl, hk2⟩
  · intro v s' hP hJ
    obtain ⟨h', tk, rfl, hk'⟩ := hJ
    have e1 : its.toArray.size - 1 = ls.length - 1 := by simp only [List.size_toArray]; omega
    rw [e1] at hP
    have hP' : its[minAt ls]? = some v := by simpa [minAt] using hP
    obtain ⟨x, hx, rx⟩ := paired_at rv hP'
    exact ⟨x, H, I.kept hk', rx, q x hx⟩
theorem pe_minLen (hc : X.calm = true) (hg1 : Gl X "min") (hm1 : X.mg "min" = none) (hg2 : Gl X "len") (hm2 : X.mg "len" = none) (ha : PA X [e] t)
    (he : backTo pos (starEach [e] X.env) = (false, eval e X.env) :: backTo pos (starEach [] X.env) := by rfl) (hpl : (backTo pos (starEach [e] X.env)).any (·.1) = false := by rfl) :
    PE X (.Call (.Name "min" p) [e] [⟨some "key", .Name "len" p2, kp⟩] pos) (fun σ H Q => t σ H fun vs H1 => rMinLen X.K vs H1 Q) := by
  refine ⟨fun pins s σ H Q I h => ?_⟩
  refine wpAny_Call_Name_kw (ld_blt I hg1 hm1 (by decide +kernel : bootBuiltins "min" = some (.builtin "min")) ?_ (by decide) (by decide))
  refine PyProof.Rows.callWith_kw (thn (ha.run pos pins s σ H _ I h) fun us s1 ⟨vs, H1, I1, r1, q1⟩ => ?_) he hpl (by rfl) (by rfl)
  show wpAny _ _ (evalAll ((do let v ← eval (.Name "len" p2) X.env; standAt pos; pure v) :: (backToKw pos (keywordEach [] X.env)).map (·.2))) _ _ s1
  refine wpAny_evalAll_cons (wpAny_bind (ld_blt I1 hg2 hm2 (by decide +kernel : bootBuiltins "len" = some (.builtin "len")) (wpAny_bind (wpAny_standAt (wpAny_pure ?_))) (by decide) (by decide)))
  exact wpAny_evalAll_nil (call_minLen hc I1 r1 q1)
def lensOf : List PyData → Option (List Nat)
  | [] => some []
  | .list xs :: ds => (lensOf ds).map (xs.length :: ·)
  | _ => none
def dMinLen : PyData → Option OV
  | .list ds => match lensOf ds with
    | some ls => if 0 < ds.length then (ds[minAt ls]?).map .sh else none
    | none => none
  | _ => none
theorem lensOf_len : ∀ {ds : List PyData} {ls : List Nat}, lensOf ds = some ls → ls.length = ds.length
  | [], ls, h => by cases h; rfl
  | .list xs :: ds, ls, h => by
    obtain ⟨l, h1, rfl⟩ := Option.map_eq_some_iff.mp h
    simp [lensOf_len h1]
theorem lensOf_at : ∀ {ds : List PyData} {ls : List Nat} {i : Nat} {d : PyData}, lensOf ds = some ls → ds[i]? = some d → ∃ xs, d = .list xs ∧ ls.getD i 0 = xs.length
  | [], ls, i, d, h, e => by simp at e
  | .list xs :: ds, ls, 0, d, h, e => by
    obtain ⟨l, h1, rfl⟩ := Option.map_eq_some_iff.mp h
    simp at e; subst e
    exact ⟨xs, rfl, rfl⟩
  | .list xs :: ds, ls, i + 1, d, h, e => by
    obtain ⟨l, h1, rfl⟩ := Option.map_eq_some_iff.mp h
    obtain ⟨ys, h2, h3⟩ := lensOf_at (i := i) h1 (by simpa using e)
    exact ⟨ys, h2, by simpa using h3⟩
theorem opn_minLen {K : PySem.W.Frag} : OpN K (rMinLen K) (g1 dMinLen) := opN1 fun Hf its F H v d c Q s r h q => by
  unfold dMinLen at h
  split at h
  · rename_i ds
    split at h
    · rename_i ls hls
      split at h
      · rename_i hne
        obtain ⟨d0, h1, rfl⟩ := Option.map_eq_some_iff.mp h
        obtain ⟨p1, ys, rfl, t1, r1⟩ := r.sqL
        refine ⟨p1, ys, ls, rfl, s.sub.sqL t1, by rw [r1.len]; exact hne, by rw [r1.len, lensOf_len hls], fun i w hw => ?_, fun w hw => ?_⟩
        · obtain ⟨d1, e1, e2⟩ := r1.get' hw
          obtain ⟨xs, rfl, e3⟩ := lensOf_at hls e1
          obtain ⟨p2, zs, rfl, t2, r2⟩ := e2.sqL
          exact ⟨p2, zs, rfl, s.sub.sqL t2, by rw [e3, r2.len]⟩
        · obtain ⟨d1, e1, e2⟩ := r1.get' hw
          rw [h1] at e1
          cases e1
          exact q _ _ _ (Same.refl _) (s.add e2)
      · cases h
    · cases h
  · cases h
theorem ev_minLen {fl : Rho → ReL} (G : Good X W n) (hg1 : Gl X "min") (hm1 : X.mg "min" = none) (hg2 : Gl X "len") (hm2 : X.mg "len" = none) (ha : EvL X W [e] fl)
    (he : backTo pos (starEach [e] X.env) = (false, eval e X.env) :: backTo pos (starEach [] X.env) := by rfl) (hpl : (backTo pos (starEach [e] X.env)).any (·.1) = false := by rfl) : EvE X W (.Call (.Name "min" p) [e] [⟨some "key", .Name "len" p2, kp⟩] pos) (eFn (g1 dMinLen) fl) :=
  pe_w (pe_minLen G.calm hg1 hm1 hg2 hm2 ha he hpl) fun σ H Q ⟨Hf, T, ρ, F, s, h⟩ => fn_post opn_minLen s h
end
end Ev
namespace Ev
open PySem PySem.Spec L2
open PyProof.Rows hiding St

section
variable {X : Cx} {W : WX} {e a b c : Expr} {es : List Expr} {f fa fb fk : Rho → Re} {fl : Rho → ReL} {pos apos cpos p : Pos} {n m k : Nat} {x : Str} {name : Str} {T id : String} {r : V → List V → Hp → VK → Prop} {g : OV → List OV → Option (OV × OV)}
/-- x.m(e, ..) -/
theorem ev_mt {i : Nat} (ho : OpM X.K r g) (hT : T ≠ "") (hp : PE X (.Call (.Attribute b name apos) (e :: es) [] cpos) (tBM X.K T r (tVar i) (tL X W fl))) : EvE X W (.Call (.Attribute b name apos) (e :: es) [] cpos) (eMut i T g fl) := pe_w hp fun σ H Q ⟨Hf, T', ρ, F, s, h⟩ => by
  unfold eMut at h
  cases q : ρ[i]? with
  | none => rw [q] at h; exact h.elim
  | some y =>
    cases y with
    | none => rw [q] at h; exact h.elim
    | some o =>
      simp only [q] at h
      by_cases ht : ownT o = T
      · rw [if_pos ht] at h
        obtain ⟨v, hv, s1, _⟩ := s.take q
        obtain ⟨its, hs, s2⟩ := s1.ex
        refine ⟨v, hv, ?_, Hf, T', ρ, F, s, PostL.bind h fun os ρ1 vs H1 Hf1 l sm s3 h1 => mut_post ho hv l s3 h1⟩
        have := tyV_own (its := T' ++ its) s2 (by rw [ht]; exact hT)
        rw [ht] at this
        exact this
      · rw [if_neg ht] at h; exact h.elim
theorem ixAll (G : Good X W n) : IxR X (rSub X.K) := ix_seq.or (ix_dict (by have := G.hu; omega))
theorem Good.nd' {X : Cx} {W : WX} {n : Nat} (G : Good X W n) : X.N.Nodup := G.nd
end
abbrev eSub := eBin (gII (fun _ _ => true) fun i j => .int (i - j))
abbrev eMul := eBin (gII mulOk fun i j => .int (i * j))
abbrev eMod := eBin (gII (fun _ j => decide (0 < j)) fun i j => .int (i % j))
abbrev eFdiv := eBin (gII divOk fun i j => .int (i / j))
abbrev ePow := eBin (gII powOk fun i j => .int (i ^ j.toNat))
abbrev eShl := eBin (gII shlOk fun i j => .int (i * 2 ^ j.toNat))
abbrev eBand := eBin (gII (fun _ _ => true) fun i j => .int (Builtin.bitAnd i j))
abbrev eBor := eBin (gII (fun _ _ => true) fun i j => .int (Builtin.bitOr i j))
abbrev eNeg := eUn (gI fun i => .int (-i))
end Ev
namespace Ev
open PySem PySem.Spec L2
open PyProof.Rows hiding St

section
variable {P : Program} {w : World} {K : PySem.W.Frag} {mg : Str → Option Value} {base : Heap} {x qual : Str} {ag : Arguments} {bd : List Stmt} {sco : Scope} {f : Addr} {fd : FuncData}
/-- a def's function object with its body's derivation: what it promises -/
theorem fnOk_of {N ps : List Str} {k n : Nat} {g : Rho → Out} (F : FunD K x qual ag bd sco [] [] f fd) (S : FnScope N ps sco) (hn : ps.length = n)
    (der : ∀ (cdv : Value) (A : Around) (outer : List Env) (s : Shared) (H : Hp) (E : XK), Good (cxOf (L2.CX P w) P w K mg base N qual sco f cdv A outer s H E) (fun cls d _ H => E cls d H) k →
      EvB (cxOf (L2.CX P w) P w K mg base N qual sco f cdv A outer s H E) (fun cls d _ H => E cls d H) bd g) :
    FnOk P w K mg base (L2.CX P w) (k + 1) f fd ps (spP K mg n (runP N.length g)) := by
  refine F.ok S (fun vs H Q E h => ?_) fun cdv A outer s H vs Q E hr h => ?_
  · obtain ⟨_, _, _, l, _⟩ := h
    exact l.trans hn.symm
  · obtain ⟨Hf, ds, Fr, l, r, sx, h⟩ := h
    have gd := der cdv A outer s H E ⟨S.nd, rfl, takes_of rfl rfl rfl rfl, passes_of rfl, hr⟩
    have sl := slots_start (N.length - ds.length) r.len
    refine ⟨_, gd, Hf, ds.map (fun d => some (.sh d)) ++ List.replicate (N.length - ds.length) none, Fr, ⟨vs.zip (ds.map .sh), ?_, sx.addAll r⟩, ?_⟩
    · unfold L2.start
      rw [r.len]
      exact sl
    · unfold runP at h
      generalize g (ds.map (fun d => some (.sh d)) ++ List.replicate (N.length - ds.length) none) = out at h
      have drop : ∀ {Hf' H' : Hp} {ρ' : Rho} {σ' : St}, SI K Hf' [] ρ' Fr σ' H' → SX K Hf' [] Fr H' := fun s' => by
        obtain ⟨its, hs, s2⟩ := s'.ex
        exact SX.tail (A := its) (B := []) (by rw [List.append_nil]; exact s2)
      cases out with
      | stk => exact h.elim
      | brk ρ' => exact h.elim
      | cnt ρ' => exact h.elim
      | next ρ' => exact fun σ' H' Hf' sm s' => h .non H' Hf' sm ((drop s').add .non)
      | ret o ρ' => exact fun v σ' H' Hf' sm s' => h v H' Hf' sm (by
          obtain ⟨its, hs, s2⟩ := s'.ex
          exact SX.head (A := [(v, o)]) s2)
      | exc e ρ' => exact fun σ' H' Hf' cls d sm s' x => h H' Hf' cls d sm (drop s') x
theorem fnD_of {N ps : List Str} {k n : Nat} {g : Rho → Out} (F : FunD K x qual ag bd sco [] [] f fd) (S : FnScope N ps sco) (hm : mg x = some (.ref f)) (hb : Binds K fd ps []) (hn : ps.length = n)
    (der : ∀ (cdv : Value) (A : Around) (outer : List Env) (s : Shared) (H : Hp) (E : XK), Good (cxOf (L2.CX P w) P w K mg base N qual sco f cdv A outer s H E) (fun cls d _ H => E cls d H) k →
      EvB (cxOf (L2.CX P w) P w K mg base N qual sco f cdv A outer s H E) (fun cls d _ H => E cls d H) bd g) :
    FnT P w K mg base x (k + 1) n (runP N.length g) := ⟨f, fd, ps, hm, F.kp, hb, fnOk_of F S hn der⟩
/-- a script as the law may get it -/
def scOk (ns : List Int) : Prop := ns.length ≤ 63 ∧ ∀ z ∈ ns, Builtin.Int.intBits z ≤ 1048576
def spTrue (K : PySem.W.Frag) : Sp := fun vs H Q _ => ∃ (a : Addr) (ns : List Int), scOk ns ∧ vs = [.ref a] ∧ SqL K H a (ns.map V.int) ∧ (∀ H', Q (.bl true) H')
/-- .. whose mirror is True of every script -/
theorem law_of {k : Nat} {g : List PyData → Rv} (hg : ∀ ns : List Int, scOk ns → g [.list (ns.map .int)] = .ok (.sh (.bool true))) (F : FnOk P w K mg base (L2.CX P w) k f fd [x] (spP K mg 1 g)) :
    FnOk P w K mg base (L2.CX P w) k f fd [x] (spTrue K) := F.imp fun vs H Q E h => by
  obtain ⟨a, ns, hn, rfl, hs, q⟩ := h
  refine ⟨H, [.list (ns.map .int)], [], rfl, .cons (.lst hs (RpAll.ints ns)) .nil, SX.nil (Ext.refl H), ?_⟩
  rw [hg ns hn]
  intro v H' Hf' sm s
  have e := s.rp
  cases e
  exact q H'
end
/-- the end of a law's proof -/
theorem walkE {l : PySem.W.OpenLaw} {k : Nat} {q : Program} {loose : List Str} {XP : (Str → Option Value) → Heap → Prop} {YP : World → Heap → Prop} {d : DefRec}
    (hr : Room k callerA) (hn : l.most = some 63) (hdf : d.params.defaults = [])
    (F : ∀ (w : World) (mg : Str → Option Value) (fa : Addr) (h : Heap), YP w h → mg d.name = some (.ref fa) → h.Ns mainGlobals mg →
      ∃ (K : PySem.W.Frag) (fd : FuncData), K.In h ∧ (∀ (s : Shared) (u : Value), BindsTo s fd ⟨[u], []⟩ [("script", u)]) ∧
        ∀ base : Heap, K.In base → base.Ns mainGlobals mg → FnOk l.prog w K mg base (L2.CX l.prog w) k fa fd ["script"] (spTrue K)) :
    PySem.W.WalkO q loose XP YP l.row.toRowW d [] (fun f vs => PySem.call f vs) := by
  refine Att.attach_callB hn hdf ?_
  intro w _ s1 mg _ fa _ _ _ _ a _ ns G Y _ _ _ hmg hobj hints hlen hbits hg
  obtain ⟨K, fd, hK, hb, hF⟩ := F w mg fa _ Y hmg G.T.g
  have h63 : ns.length ≤ sizeLine := Nat.le_trans hlen (by decide)
  refine law_call hK G.T.g G.T.b G.T.builtins G.T.nolimit hg hobj hints h63 hr hF hb ?_ ?_
  · exact fun H _ hS => ⟨a, ns, ⟨hlen, hbits⟩, rfl, hS, fun _ => rfl⟩
  · intro H e s' z
    obtain ⟨_, _, _, _, _, _, _, _, _, _, _, _, z⟩ := z
    exact z
end Ev
namespace Ev
open PySem PySem.Spec L2
open PyProof.Rows hiding St

/-! ### the plain laws: what the mirrors compute -/
section
variable {ρ ρ1 ρ2 : Rho} {f fa fb fc : Rho → Re} {g g' : OV → OV → Option OV} {o : OV} {i j : Int} {d e : PyData}
theorem gAdd_int : gAdd (.sh (.int i)) (.sh (.int j)) = some (.sh (.int (i + j))) := rfl
theorem gII_int {C : Int → Int → Bool} {h : Int → Int → PyData} : gII C h (.sh (.int i)) (.sh (.int j)) = if C i j = true then some (.sh (h i j)) else none := rfl
theorem gII_ok {C : Int → Int → Bool} {h : Int → Int → PyData} (hc : C i j = true) : gII C h (.sh (.int i)) (.sh (.int j)) = some (.sh (h i j)) := by rw [gII_int, if_pos hc]
theorem gI_int {h : Int → PyData} : gI h (.sh (.int i)) = some (.sh (h i)) := rfl
theorem gOrd_int {fi : Int → Int → Bool} {fd : PyData → PyData → Bool} : gOrd fi fd (.sh (.int i)) (.sh (.int j)) = some (.sh (.bool (fi i j))) := rfl
theorem shaped_int : SeqAt.shaped (.int i) = true := by simp [SeqAt.shaped, PyData.canLay0, PyData.depth]
theorem shaped_str {x : Str} : SeqAt.shaped (.str x) = PyData.strOk x := by simp [SeqAt.shaped, PyData.canLay0, PyData.depth]
theorem shaped_bool {x : Bool} : SeqAt.shaped (.bool x) = true := by simp [SeqAt.shaped, PyData.canLay0, PyData.depth]
theorem shaped_none : SeqAt.shaped .none = true := by simp [SeqAt.shaped, PyData.canLay0, PyData.depth]
theorem eqv_int : PyData.eqv (.int i) (.int j) = decide (i = j) := by rw [PyData.eqv]; rfl
theorem eqv_str {x y : Str} : PyData.eqv (.str x) (.str y) = decide (x = y) := by rw [PyData.eqv]; rfl
theorem gEq_int {neg : Bool} : gEq neg (.sh (.int i)) (.sh (.int j)) = some (.sh (.bool (neg ^^ decide (i = j)))) := by simp [gEq, fz, shaped_int, eqv_int]
theorem gEq_str {neg : Bool} {x y : Str} (hx : PyData.strOk x = true) (hy : PyData.strOk y = true) : gEq neg (.sh (.str x)) (.sh (.str y)) = some (.sh (.bool (neg ^^ decide (x = y)))) := by simp [gEq, fz, shaped_str, eqv_str, hx, hy]
theorem mulOk_l (h : -(2 ^ 64) < i ∧ i < 2 ^ 64) : mulOk i j = true := by unfold mulOk; rw [decide_eq_true h]; rfl
theorem mulOk_r (h : -(2 ^ 64) < j ∧ j < 2 ^ 64) : mulOk i j = true := by unfold mulOk; rw [decide_eq_true h]; simp
theorem log2_lt {n m : Nat} (h : n < 2 ^ m) (hm : 0 < m) : n.log2 < m := by
  by_cases e : n = 0
  · subst e; simpa using hm
  · exact (Nat.log2_lt e).mpr h
theorem mulOk_n {n m : Nat} (h1 : i.natAbs < 2 ^ n) (h2 : j.natAbs < 2 ^ m) (hn : 0 < n) (hm : 0 < m) (hs : n + m < 1000000) : mulOk i j = true := by
  unfold mulOk
  have a := log2_lt h1 hn
  have b := log2_lt h2 hm
  have : decide (i.natAbs.log2 + j.natAbs.log2 < 1000000) = true := decide_eq_true (by omega)
  rw [this, Bool.or_true]
theorem powOk_n {n : Nat} {k : Nat} (h1 : i.natAbs < 2 ^ n) (hs : n * k ≤ 2 ^ 27) : powOk i (k : Nat) = true := by
  unfold powOk
  have a : Builtin.Int.intBits i ≤ n := PySem.intBits_le_iff.mpr h1
  have b : Builtin.Int.intBits i * k ≤ n * k := Nat.mul_le_mul_right k a
  rw [Bool.and_eq_true]
  refine ⟨decide_eq_true (by omega), decide_eq_true ?_⟩
  have : ((Builtin.Int.intBits i * k : Nat) : Int) ≤ ((2 ^ 27 : Nat) : Int) := by exact_mod_cast Nat.le_trans b hs
  simpa using this
theorem divOk_n {n : Nat} (h0 : 0 < j) (h1 : j.natAbs < 2 ^ n) (hn : 0 < n) (hs : n ≤ 9000) : divOk i j = true := by
  unfold divOk
  have := log2_lt h1 hn
  rw [decide_eq_true h0, decide_eq_true (by omega : j.natAbs.log2 < 9000)]; rfl
end

theorem rngOk_of {i : Int} (h : -1000000000 ≤ i) (h2 : i ≤ 1000000000) : rngOk i = true := by
  unfold rngOk
  have a : (2 : Int) ^ 62 = 4611686018427387904 := by decide
  rw [a]
  exact decide_eq_true (by omega)
theorem iRange1_ok {f : Rho → Re} {ρ ρ1 : Rho} {j : Int} (h : f ρ = .ok (.sh (.int j)) ρ1) (hr : rngOk j = true) : iRange1 f ρ = .ok (upto 0 j.toNat) ρ1 := by
  unfold iRange1
  rw [h]
  simp only [hr, if_true]
theorem iRange2_ok {f : Rho → ReL} {ρ ρ1 : Rho} {i j : Int} (h : f ρ = .ok [.sh (.int i), .sh (.int j)] ρ1) (hr : rngOk i = true) (hr2 : rngOk j = true) : iRange2 f ρ = .ok (upto i (j - i).toNat) ρ1 := by
  unfold iRange2
  rw [h]
  simp only [hr, hr2, Bool.and_self, if_true]
theorem sFor_ok {fs : List Nat} {fi : Rho → ReI} {h : OV → Rho → Option Rho} {body : Rho → Out} {ρ ρ1 : Rho} {ds : List PyData} (q : fi ρ = .ok ds ρ1) : sFor fs fi h body ρ = forL fs h body ds (fgt fs ρ1) := by
  unfold sFor
  rw [q]
theorem iVal_ok {f : Rho → Re} {ρ ρ1 : Rho} {o : OV} {ds : List PyData} (h : f ρ = .ok o ρ1) (h2 : itemsOf (fz o) = some ds) : iVal f ρ = .ok ds ρ1 := by
  unfold iVal
  rw [h]
  simp only [h2]
theorem sz_le {n : Nat} (h : n ≤ 63) : (n ≤ sizeLine) = True := eq_true (Nat.le_trans h (by decide))
theorem sz_lt {n : Nat} (h : n ≤ 63) : (n < sizeLine) = True := eq_true (Nat.lt_of_le_of_lt h (by decide))
/-- no step of the kernel's own -/
theorem nrfl {α : Type} {a b : α} (h : a = b) : a = b := by
  cases h
  exact Eq.symm (Eq.refl a)
/-! computing: one step at a time -/
section
variable {ρ ρ1 ρ2 : Rho} {o : OV} {os : List OV} {b : Bool} {x : Exn} {ds : List PyData}
theorem bindE_ok {k : OV → Rho → Re} : bindE (.ok o ρ) k = k o ρ := nrfl rfl
theorem bindE_exc {k : OV → Rho → Re} : bindE (.exc x ρ) k = .exc x ρ := nrfl rfl
theorem bindEL_ok {k : OV → Rho → ReL} : bindEL (.ok o ρ) k = k o ρ := nrfl rfl
theorem bindL_ok {k : List OV → Rho → Re} : bindL (.ok os ρ) k = k os ρ := nrfl rfl
theorem bindLL_ok {k : List OV → Rho → ReL} : bindLL (.ok os ρ) k = k os ρ := nrfl rfl
theorem bindB_ok {k : Bool → Rho → Re} : bindB (.ok b ρ) k = k b ρ := nrfl rfl
theorem bindBB_ok {k : Bool → Rho → ReB} : bindBB (.ok b ρ) k = k b ρ := nrfl rfl
theorem bindEB_ok {k : OV → Rho → ReB} : bindEB (.ok o ρ) k = k o ρ := nrfl rfl
theorem bindS_ok {k : OV → Rho → Out} : bindS (.ok o ρ) k = k o ρ := nrfl rfl
theorem bindS_exc {k : OV → Rho → Out} : bindS (.exc x ρ) k = .exc x ρ := nrfl rfl
theorem bindBS_ok {k : Bool → Rho → Out} : bindBS (.ok b ρ) k = k b ρ := nrfl rfl
theorem ofO_some : ofO (some o) ρ = .ok o ρ := nrfl rfl
theorem ofRv_ok : ofRv (.ok o) ρ = .ok o ρ := nrfl rfl
theorem ofRv_exc : ofRv (.exc x) ρ = .exc x ρ := nrfl rfl
theorem toB_b : toB (.sh (.bool b)) ρ = .ok b ρ := nrfl rfl
theorem ofH_some : ofH (some ρ) = .next ρ := nrfl rfl
/-- what follows a statement -/
def seqO (r : Out) (g : Rho → Out) : Out := match r with
  | .next ρ => g ρ
  | r => r
theorem sCons_eq {g1 g2 : Rho → Out} : sCons g1 g2 ρ = seqO (g1 ρ) g2 := by
  unfold sCons seqO
  cases g1 ρ <;> rfl
theorem seqO_next {g : Rho → Out} : seqO (.next ρ) g = g ρ := nrfl rfl
theorem seqO_ret {g : Rho → Out} : seqO (.ret o ρ) g = .ret o ρ := nrfl rfl
theorem seqO_brk {g : Rho → Out} : seqO (.brk ρ) g = .brk ρ := nrfl rfl
theorem seqO_cnt {g : Rho → Out} : seqO (.cnt ρ) g = .cnt ρ := nrfl rfl
theorem seqO_exc {g : Rho → Out} : seqO (.exc x ρ) g = .exc x ρ := nrfl rfl
def finP : Out → Rv
  | .next _ => .ok (.sh .none)
  | .ret o _ => .ok o
  | .exc e _ => .exc e
  | _ => .stk
theorem runP_eq {m : Nat} {g : Rho → Out} : runP m g ds = finP (g (ds.map (fun d => some (.sh d)) ++ List.replicate (m - ds.length) none)) := by
  unfold runP finP
  generalize g (ds.map (fun d => some (.sh d)) ++ List.replicate (m - ds.length) none) = r
  cases r <;> rfl
theorem finP_ret : finP (.ret o ρ) = .ok o := nrfl rfl
theorem finP_next : finP (.next ρ) = .ok (.sh .none) := nrfl rfl
theorem finP_exc : finP (.exc x ρ) = .exc x := nrfl rfl
theorem eAnd_eq {fa fb : Rho → Re} : eAnd fa fb ρ = bindB (bindEB (fa ρ) toB) fun k ρ1 => if k = true then fb ρ1 else .ok (.sh (.bool false)) ρ1 := by
  unfold eAnd bindEB bindB bindE
  cases fa ρ with
  | ok o ρ1 =>
    cases o with
    | sh d => cases d with
      | bool z => cases z <;> rfl
      | _ => rfl
    | _ => rfl
  | exc e ρ1 => rfl
  | stk => rfl
theorem eOr_eq {fa fb : Rho → Re} : eOr fa fb ρ = bindB (bindEB (fa ρ) toB) fun k ρ1 => if k = true then .ok (.sh (.bool true)) ρ1 else fb ρ1 := by
  unfold eOr bindEB bindB bindE
  cases fa ρ with
  | ok o ρ1 =>
    cases o with
    | sh d => cases d with
      | bool z => cases z <;> rfl
      | _ => rfl
    | _ => rfl
  | exc e ρ1 => rfl
  | stk => rfl
theorem gNot_b : gNot (.sh (.bool b)) = some (.sh (.bool (!b))) := nrfl rfl
theorem ownT_lst : ownT (.lst os) = "list" := nrfl rfl
theorem mApp_ok (h : os.length < sizeLine) : mApp (.lst os) [o] = some (.lst (os ++ [o]), .sh .none) := by
  simp only [mApp]
  rw [if_pos h]
theorem dLen_list : dLen (.list ds) = some (.sh (.int ds.length)) := nrfl rfl
theorem dLen_tup : dLen (.tuple ds) = some (.sh (.int ds.length)) := nrfl rfl
theorem gSub_list {i : Int} : gSub (.sh (.list ds)) (.sh (.int i)) = (atI ds i).map .sh := by rw [gSub, fz, fz]
theorem gSub_tup {i : Int} : gSub (.sh (.tuple ds)) (.sh (.int i)) = (atI ds i).map .sh := by rw [gSub, fz, fz]
theorem ixN_of {n j : Nat} (h : j < n) : ixN n (j : Int) = some j := by
  have a : (0 : Int) ≤ j := by omega
  have b : (j : Int) < n := by omega
  unfold ixN
  rw [if_pos a, if_pos b, Int.toNat_natCast]
theorem fz_lst {xs : List OV} : fz (.lst xs) = .list (xs.map fz) := by rw [fz, fzs_eq]
theorem map_sh_fz {ds : List PyData} : (ds.map OV.sh).map fz = ds := by
  rw [List.map_map]
  conv => rhs; rw [← List.map_id ds]
  refine List.map_congr_left fun d _ => ?_
  show fz (.sh d) = d
  rw [fz]
theorem gSub_lst {xs : List OV} {i : Int} : gSub (.lst xs) (.sh (.int i)) = (atI (xs.map fz) i).map .sh := by rw [gSub, fz_lst, fz]
theorem gMax_two {two : Int → Int → Int} {many : List Int → Int} {i j : Int} : gMax two many [.sh (.int i), .sh (.int j)] = some (.sh (.int (two i j))) := by
  unfold gMax
  simp only [fz]
theorem dLen_lst {xs : List OV} : dLen (fz (.lst xs)) = some (.sh (.int xs.length)) := by rw [fz_lst]; simp [dLen]
theorem set_none_set {ρ : Rho} {i : Nat} {o : OV} : (ρ.set i none).set i (some o) = ρ.set i (some o) := by simp
theorem eMutS_ok {i n : Nat} {fk : Rho → Re} {fl : Rho → ReL} {g : OV → List OV → Option (OV × OV)} {xs ys : List OV} {j : Int} {o' res : OV} (h0 : ρ[i]? = some (some (.lst xs))) (hk : fk ρ = .ok (.sh (.int j)) ρ) (hj : ixN xs.length j = some n) (ho : xs[n]? = some (.lst ys))
    (hl : fl (ρ.set i none) = .ok os (ρ.set i none)) (hg : g (.lst ys) os = some (o', res)) : eMutS i "list" g fk fl ρ = .ok res (ρ.set i (some (.lst (xs.set n o')))) := by
  have hi : i < ρ.length := (List.getElem?_eq_some_iff.mp h0).1
  have ov : isOv ρ i = true := by unfold isOv; rw [h0]
  have no : isNo (ρ.set i none) i = true := by unfold isNo; rw [List.getElem?_set_self hi]
  have e1 : subO (.lst xs) (.int j) = some (.lst ys) := by simp only [subO, hj, Option.bind_some, ho]
  have e2 : putO (.lst xs) (.int j) o' = .lst (xs.set n o') := by simp only [putO, hj]
  unfold eMutS
  rw [if_pos ov, hk]
  simp only [bindE, h0, fz, e1, ownT, if_true, hl, ofN, hg, no, e2, List.set_set]
theorem fz_sh {d : PyData} : fz (.sh d) = d := by rw [fz]
theorem eTup_sh {fl : Rho → ReL} : eTup fl ρ = bindL (fl ρ) fun os ρ1 => if os.length ≤ sizeLine then .ok (.sh (.tuple (os.map fz))) ρ1 else .stk := nrfl rfl
end
/-! loops -/
/-- a loop that runs to its end: P i: what holds ahead of turn i -/
theorem forL_run {fs : List Nat} {h : OV → Rho → Option Rho} {body : Rho → Out} (P : Nat → Rho → Prop) : ∀ (ds : List PyData) (i : Nat) (ρ : Rho), P i ρ →
    (∀ (k : Nat) (d : PyData) (ρ : Rho), ds[k]? = some d → P (i + k) ρ → ∃ ρ1 ρ2, h (.sh d) ρ = some ρ1 ∧ (body ρ1 = .next ρ2 ∨ body ρ1 = .cnt ρ2) ∧ P (i + k + 1) (fgt fs ρ2)) →
    ∃ ρ', forL fs h body ds ρ = .next ρ' ∧ P (i + ds.length) ρ'
  | [], i, ρ, hp, _ => ⟨ρ, rfl, hp⟩
  | d :: ds, i, ρ, hp, hs => by
    obtain ⟨ρ1, ρ2, h1, h2, h3⟩ := hs 0 d ρ rfl hp
    obtain ⟨ρ', h4, h5⟩ := forL_run P ds (i + 1) (fgt fs ρ2) h3 fun k d' ρ' hk hp' => by
      have e : i + 1 + k = i + (k + 1) := by omega
      rw [e] at hp' ⊢
      exact hs (k + 1) d' ρ' (by simpa using hk) hp'
    refine ⟨ρ', ?_, by rw [List.length_cons]; have e : i + (ds.length + 1) = i + 1 + ds.length := by omega
                       rw [e]; exact h5⟩
    unfold forL
    rw [h1]
    rcases h2 with h2 | h2 <;> simp only [h2] <;> exact h4
/-- the state ahead of every turn is the same -/
theorem forL_same {fs : List Nat} {h : OV → Rho → Option Rho} {body : Rho → Out} {ds : List PyData} {ρ : Rho}
    (hs : ∀ d ∈ ds, ∃ ρ1 ρ2, h (.sh d) ρ = some ρ1 ∧ (body ρ1 = .next ρ2 ∨ body ρ1 = .cnt ρ2) ∧ fgt fs ρ2 = ρ) : forL fs h body ds ρ = .next ρ := by
  obtain ⟨ρ', h1, h2⟩ := forL_run (fs := fs) (h := h) (body := body) (fun _ z => z = ρ) ds 0 ρ rfl fun k d ρ' hk hp => by
    subst hp
    exact hs d (List.mem_of_getElem? hk)
  rw [h1, h2]
/-- a loop as a fold -/
theorem forL_fold {α : Type} {fs : List Nat} {h : OV → Rho → Option Rho} {body : Rho → Out} (st : α → Rho) (f : α → PyData → α) : ∀ (ds : List PyData) (a : α),
    (∀ d ∈ ds, ∀ a, ∃ ρ1 ρ2, h (.sh d) (st a) = some ρ1 ∧ (body ρ1 = .next ρ2 ∨ body ρ1 = .cnt ρ2) ∧ fgt fs ρ2 = st (f a d)) → forL fs h body ds (st a) = .next (st (ds.foldl f a))
  | [], a, _ => rfl
  | d :: ds, a, hs => by
    obtain ⟨ρ1, ρ2, h1, h2, h3⟩ := hs d List.mem_cons_self a
    unfold forL
    rw [h1]
    have := forL_fold st f ds (f a d) fun d' hd' => hs d' (List.mem_cons_of_mem _ hd')
    rw [← h3] at this
    rcases h2 with h2 | h2 <;> simp only [h2] <;> rw [this, List.foldl_cons]
theorem upto_mem {lo : Int} {n : Nat} {d : PyData} : d ∈ upto lo n ↔ ∃ k : Nat, k < n ∧ d = .int (lo + k) := by
  unfold upto
  simp only [List.mem_map, List.mem_range]
  constructor
  · rintro ⟨k, h, rfl⟩; exact ⟨k, h, rfl⟩
  · rintro ⟨k, h, rfl⟩; exact ⟨k, h, rfl⟩
theorem upto_get {lo : Int} {n k : Nat} {d : PyData} (h : (upto lo n)[k]? = some d) : k < n ∧ d = .int (lo + k) := by
  unfold upto at h
  rw [List.getElem?_map] at h
  obtain ⟨m, h1, rfl⟩ := Option.map_eq_some_iff.mp h
  have h2 := List.getElem?_eq_some_iff.mp h1
  obtain ⟨h3, h4⟩ := h2
  simp at h3 h4
  subst h4
  exact ⟨h3, rfl⟩
theorem upto_len {lo : Int} {n : Nat} : (upto lo n).length = n := by simp [upto]
/-- a comprehension over what is shared, without a test -/
theorem compL_map {vs : List Nat} {h : OV → Rho → Option Rho} {te : Rho → Re} {ρ : Rho} (f : PyData → OV) : ∀ (ds : List PyData) (k : Nat), k + ds.length ≤ sizeLine →
    (∀ d ∈ ds, ∃ ρ1 ρ2, h (.sh d) ρ = some ρ1 ∧ te ρ1 = .ok (f d) ρ2 ∧ fgt vs ρ2 = ρ) → compL vs h tYesR te ds k ρ = .ok (ds.map f) ρ
  | [], _, _, _ => rfl
  | d :: ds, k, hk, hs => by
    obtain ⟨ρ1, ρ2, h1, h2, h3⟩ := hs d List.mem_cons_self
    rw [List.length_cons] at hk
    have := compL_map f ds (k + 1) (by omega) fun d' hd' => hs d' (List.mem_cons_of_mem _ hd')
    unfold compL
    have ty : tYesR ρ1 = .ok true ρ1 := rfl
    simp only [h1, ty, h2, h3]
    rw [if_pos (by omega)]
    simp only [this, List.map_cons]
/-- .. with a test -/
theorem compL_filter {vs : List Nat} {h : OV → Rho → Option Rho} {tt : Rho → ReB} {te : Rho → Re} {ρ : Rho} (p : PyData → Bool) (f : PyData → OV) : ∀ (ds : List PyData) (k : Nat), k + ds.length ≤ sizeLine →
    (∀ d ∈ ds, ∃ ρ1 ρ2, h (.sh d) ρ = some ρ1 ∧ tt ρ1 = .ok (p d) ρ2 ∧ (p d = false → fgt vs ρ2 = ρ) ∧ (p d = true → ∃ ρ3, te ρ2 = .ok (f d) ρ3 ∧ fgt vs ρ3 = ρ)) → compL vs h tt te ds k ρ = .ok ((ds.filter p).map f) ρ
  | [], _, _, _ => rfl
  | d :: ds, k, hk, hs => by
    obtain ⟨ρ1, ρ2, h1, h2, h3, h4⟩ := hs d List.mem_cons_self
    rw [List.length_cons] at hk
    unfold compL
    cases q : p d with
    | false =>
      have := compL_filter p f ds k (by omega) fun d' hd' => hs d' (List.mem_cons_of_mem _ hd')
      simp only [h1, h2, q, h3 q, this]
      rw [List.filter_cons_of_neg (by simp [q])]
    | true =>
      obtain ⟨ρ3, h5, h6⟩ := h4 q
      have := compL_filter p f ds (k + 1) (by omega) fun d' hd' => hs d' (List.mem_cons_of_mem _ hd')
      simp only [h1, h2, q, h5, h6]
      rw [if_pos (by omega)]
      simp only [this]
      rw [List.filter_cons_of_pos q, List.map_cons]
theorem eLc_ok {vs : List Nat} {fi : Rho → ReI} {h : OV → Rho → Option Rho} {tt : Rho → ReB} {te : Rho → Re} {ρ ρ1 ρ2 : Rho} {ds : List PyData} {os : List OV} (q : fi ρ = .ok ds ρ1) (c : compL vs h tt te ds 0 (fgt vs ρ1) = .ok os ρ2) : eLc vs fi h tt te ρ = .ok (.lst os) (relay vs ρ1 ρ2) := by
  unfold eLc
  rw [q]
  simp only [c]
section
variable {α : Type} {a b c d e f g : α} {xs : List α}
theorem atI_l0 : atI (a :: xs) 0 = some a := atI_nat (j := 0) rfl
theorem atI_l1 : atI (a :: b :: xs) 1 = some b := atI_nat (j := 1) rfl
theorem atI_l2 : atI (a :: b :: c :: xs) 2 = some c := atI_nat (j := 2) rfl
theorem atI_l3 : atI (a :: b :: c :: d :: xs) 3 = some d := atI_nat (j := 3) rfl
theorem atI_l4 : atI (a :: b :: c :: d :: e :: xs) 4 = some e := atI_nat (j := 4) rfl
theorem atI_l5 : atI (a :: b :: c :: d :: e :: f :: xs) 5 = some f := atI_nat (j := 5) rfl
theorem atI_l6 : atI (a :: b :: c :: d :: e :: f :: g :: xs) 6 = some g := atI_nat (j := 6) rfl
end
end Ev
namespace Ev
open PySem PySem.Spec L2
open PyProof.Rows hiding St
local macro_rules | `(tactic| decreasing_trivial_pre_omega) => `(tactic| simp only [sCons_eq, seqO_next, seqO_ret, seqO_brk, seqO_cnt, seqO_exc, sNil, sSet, sIf, sRet, sRetN, sExpr, sPass, sBrk, sCnt, sAsg, ofH_some, sPar, bindE_ok, bindE_exc, bindEL_ok, bindL_ok, bindLL_ok, bindB_ok, bindBB_ok, bindEB_ok, bindS_ok, bindS_exc, bindBS_ok, cC, eV, eM, eBin, eUn, ofO_some, gAdd_int, gII_ok, gI_int, gOrd_int, gEq_int, fz_sh, fz_lst, eTest, toB_b, bNot, bAnd, bOr, gNot_b, eAnd_eq, eOr_eq, eIf, lNil, lCons, eTup, eLst, eCall, ofRv_ok, ofRv_exc, eFn, g1, gMax_two, hName, hCons, hNil, hTup, fgt, eMut, ofM, mApp_ok, ownT_lst, dLen_list, dLen_tup, gSub_list, gSub_tup, gSub_lst, atI_l0, atI_l1, atI_l2, atI_l3, atI_l4, atI_l5, atI_l6, Option.map_some, runP_eq, finP_ret, finP_next, finP_exc, List.getElem?_cons_zero, List.getElem?_cons_succ, List.set_cons_zero, List.set_cons_succ, List.map_cons, List.map_nil, List.replicate, List.cons_append, List.nil_append, if_true, if_false, Bool.false_eq_true, decide_true, Bool.false_xor, Bool.true_xor, decide_eq_true_eq, List.length_cons, List.length_nil, Nat.reduceAdd, Nat.reduceSub, Nat.reduceMul, Int.reduceLT, Int.reduceEq, Int.reduceSub, Int.reduceAdd, Int.reduceNeg, Int.reduceLE, Int.reduceToNat, sz_le, sz_lt, Nat.reduceLeDiff, Nat.reduceLT, Bool.not_true, Bool.not_false, Bool.true_and, Bool.and_true, Bool.false_or, Bool.or_false])
local macro_rules | `(tactic| get_elem_tactic_trivial) => `(tactic| simp only [sCons_eq, seqO_next, seqO_ret, seqO_brk, seqO_cnt, seqO_exc, sNil, sSet, sIf, sRet, sRetN, sExpr, sPass, sBrk, sCnt, sAsg, ofH_some, sPar, bindE_ok, bindE_exc, bindEL_ok, bindL_ok, bindLL_ok, bindB_ok, bindBB_ok, bindEB_ok, bindS_ok, bindS_exc, bindBS_ok, cC, eV, eM, eBin, eUn, ofO_some, gAdd_int, gII_ok, gI_int, gOrd_int, gEq_int, fz_sh, fz_lst, eTest, toB_b, bNot, bAnd, bOr, gNot_b, eAnd_eq, eOr_eq, eIf, lNil, lCons, eTup, eLst, eCall, ofRv_ok, ofRv_exc, eFn, g1, gMax_two, hName, hCons, hNil, hTup, fgt, eMut, ofM, mApp_ok, ownT_lst, dLen_list, dLen_tup, gSub_list, gSub_tup, gSub_lst, atI_l0, atI_l1, atI_l2, atI_l3, atI_l4, atI_l5, atI_l6, Option.map_some, runP_eq, finP_ret, finP_next, finP_exc, List.getElem?_cons_zero, List.getElem?_cons_succ, List.set_cons_zero, List.set_cons_succ, List.map_cons, List.map_nil, List.replicate, List.cons_append, List.nil_append, if_true, if_false, Bool.false_eq_true, decide_true, Bool.false_xor, Bool.true_xor, decide_eq_true_eq, List.length_cons, List.length_nil, Nat.reduceAdd, Nat.reduceSub, Nat.reduceMul, Int.reduceLT, Int.reduceEq, Int.reduceSub, Int.reduceAdd, Int.reduceNeg, Int.reduceLE, Int.reduceToNat, sz_le, sz_lt, Nat.reduceLeDiff, Nat.reduceLT, Bool.not_true, Bool.not_false, Bool.true_and, Bool.and_true, Bool.false_or, Bool.or_false, *])
/-! ### what every law draws -/
def b_stir : Rho → Out :=
  (sCons (sSet 2 (eMul (eBin gAdd (eBin gAdd (eMod (eV 0) (ePow (cC (.int 10)) (cC (.int 60)))) (eMul (cC (.int 7919)) (eV 1))) (cC (.int 1))) (cC (.int 27182818284590452353602874713527))))
    (sCons (sSet 2 (eMod (eV 2) (cC (.int 170141183460469231731687303715884105727))))
    (sCons (sRet (eFdiv (eMod (ePow (eBin gAdd (ePow (eV 2) (cC (.int 5))) (eMul (cC (.int 48271)) (eV 1))) (cC (.int 3))) (cC (.int 162259276829213363391578010288127))) (cC (.int 7))))
    sNil)))
def m_stir : List PyData → Rv := runP 3 b_stir
def stirN (cell k : Int) : Int := ((cell % 10 ^ 60 + 7919 * k + 1) * 27182818284590452353602874713527) % 170141183460469231731687303715884105727
def stir (cell k : Int) : Int := ((stirN cell k) ^ 5 + 48271 * k) ^ 3 % 162259276829213363391578010288127 / 7
set_option exponentiation.threshold 2000 in
theorem stir_eq {cell k : Int} (h0 : 0 ≤ k) (h1 : k < 2 ^ 20) : m_stir [.int cell, .int k] = .ok (.sh (.int (stir cell k))) := by
  have p10 : powOk 10 60 = true := by decide +kernel
  have b0 : 0 ≤ stirN cell k ∧ stirN cell k < 170141183460469231731687303715884105727 := by unfold stirN; omega
  have c0 : 0 ≤ cell % 10 ^ 60 ∧ cell % 10 ^ 60 < 10 ^ 60 := by omega
  have m1 : mulOk (cell % 10 ^ 60 + 7919 * k + 1) 27182818284590452353602874713527 = true := mulOk_n (n := 210) (m := 110) (by omega) (by decide) (by decide) (by decide) (by decide)
  have p5 : powOk (stirN cell k) 5 = true := powOk_n (n := 127) (k := 5) (by omega) (by decide)
  have p3 : powOk ((stirN cell k) ^ 5 + 48271 * k) 3 = true := powOk_n (n := 700) (k := 3) (by
    obtain ⟨n, hn⟩ := Int.eq_ofNat_of_zero_le b0.1
    obtain ⟨j, hj⟩ := Int.eq_ofNat_of_zero_le h0
    rw [hn, hj]
    have e : ((n : Int) ^ 5 + 48271 * (j : Int)) = ((n ^ 5 + 48271 * j : Nat) : Int) := by
      simp
    rw [e, Int.natAbs_natCast]
    have hn2 : n ≤ 2 ^ 127 := by omega
    have h5 : n ^ 5 ≤ (2 ^ 127) ^ 5 := Nat.pow_le_pow_left hn2 5
    have hj2 : j < 2 ^ 20 := by omega
    have e2 : (2 ^ 127) ^ 5 = 2 ^ 635 := by rw [← Nat.pow_mul]
    rw [e2] at h5
    omega) (by decide)
  have d7 : divOk (((stirN cell k) ^ 5 + 48271 * k) ^ 3 % 162259276829213363391578010288127) 7 = true := (by decide +kernel : divOk 0 7 = true)
  have t1 : (60 : Int).toNat = 60 := rfl
  have t2 : (5 : Int).toNat = 5 := rfl
  have t3 : (3 : Int).toNat = 3 := rfl
  have k1 : mulOk 7919 k = true := mulOk_l (by decide)
  have k2 : mulOk 48271 k = true := mulOk_l (by decide)
  have z60 : (0 : Int) < 10 ^ 60 := by decide
  unfold m_stir b_stir
  unfold stirN at p5 p3 d7
  get_elem_tactic_trivial
  rfl

def b_drawn : Rho → Out :=
  (sCons (sSet 2 (eLst lNil))
    (sCons (sSet 3 (eV 0))
    (sCons (sFor [4] (iRange1 (eFn (g1 dLen) (lCons (eV 1) lNil))) (hName 4) (sCons (sIf (bOr (eTest (eBin (gLt) (eV 0) (ePow (cC (.int 10)) (cC (.int 18))))) (eTest (eBin (gEq false) (eV 3) (cC (.int 0))))) (sCons (sExpr (eMut 2 "list" mApp (lCons (eMod (eCall m_stir (lCons (eV 0) (lCons (eV 4) lNil))) (eBin gSub (eV 1) (eV 4))) lNil)))
    sNil) (sCons (sExpr (eMut 2 "list" mApp (lCons (eMod (eV 3) (eBin gSub (eV 1) (eV 4))) lNil)))
    (sCons (sSet 3 (eFdiv (eV 3) (eBin gSub (eV 1) (eV 4))))
    sNil)))
    sNil))
    (sCons (sRet (eM 2))
    sNil))))
def m_drawn : List PyData → Rv := runP 5 b_drawn
abbrev iOs (xs : List Int) : List OV := xs.map fun x => .sh (.int x)
abbrev iDs (xs : List Int) : PyData := .list (xs.map .int)
/-- what is drawn: one number below each size -/
def Drawn (xs sizes : List Int) : Prop := xs.length = sizes.length ∧ ∀ (k : Nat) (x s : Int), xs[k]? = some x → sizes[k]? = some s → 0 ≤ x ∧ x < s
theorem drawn_ok {cell : Int} {sizes : List Int} (hs : ∀ s ∈ sizes, 0 < s ∧ s < 2 ^ 62) (hl : sizes.length ≤ 63) : ∃ xs, m_drawn [.int cell, iDs sizes] = .ok (.lst (iOs xs)) ∧ Drawn xs sizes := by
  have p18 : powOk 10 18 = true := by decide +kernel
  obtain ⟨ρ', h1, rest, xs, h2, h3, h4⟩ := forL_run (fs := [4]) (h := hName 4) (body := (sCons (sIf (bOr (eTest (eBin (gLt) (eV 0) (ePow (cC (.int 10)) (cC (.int 18))))) (eTest (eBin (gEq false) (eV 3) (cC (.int 0))))) (sCons (sExpr (eMut 2 "list" mApp (lCons (eMod (eCall m_stir (lCons (eV 0) (lCons (eV 4) lNil))) (eBin gSub (eV 1) (eV 4))) lNil)))
    sNil) (sCons (sExpr (eMut 2 "list" mApp (lCons (eMod (eV 3) (eBin gSub (eV 1) (eV 4))) lNil)))
    (sCons (sSet 3 (eFdiv (eV 3) (eBin gSub (eV 1) (eV 4))))
    sNil)))
    sNil))
    (fun i ρ => ∃ (rest : Int) (xs : List Int), ρ = [some (.sh (.int cell)), some (.sh (iDs sizes)), some (.lst (iOs xs)), some (.sh (.int rest)), none] ∧ xs.length = i ∧ ∀ (k : Nat) (x s : Int), xs[k]? = some x → sizes[k]? = some s → 0 ≤ x ∧ x < s)
    (upto 0 sizes.length) 0 [some (.sh (.int cell)), some (.sh (iDs sizes)), some (.lst (iOs [])), some (.sh (.int cell)), none] ⟨cell, [], rfl, rfl, by simp⟩ (fun k d ρ hk hp => by
      obtain ⟨rest, xs, rfl, hx, hb⟩ := hp
      obtain ⟨hk1, rfl⟩ := upto_get hk
      have hx' : xs.length = k := by omega
      have g0 : sizes[k]? = some sizes[k] := List.getElem?_eq_getElem hk1
      have hsk := hs sizes[k] (List.getElem_mem hk1)
      have at1 : atI (sizes.map PyData.int) (0 + (k : Nat)) = some (.int sizes[k]) := by
        rw [Int.zero_add]
        exact atI_nat (by rw [List.getElem?_map, g0]; rfl)
      have lz : (iOs xs).length < sizeLine := by rw [sizeLine_eq, iOs, List.length_map]; omega
      have st := stir_eq (cell := cell) (k := 0 + (k : Nat)) (by omega) (by omega)
      have key : ∀ y : Int, 0 ≤ y → y < sizes[k] → ∀ (j : Nat) (x s : Int), (xs ++ [y])[j]? = some x → sizes[j]? = some s → 0 ≤ x ∧ x < s := fun y y0 y1 j x s h1 h2 => by
        by_cases e : j < xs.length
        · rw [List.getElem?_append_left e] at h1
          exact hb j x s h1 h2
        · rw [List.getElem?_append_right (by omega)] at h1
          have : j = xs.length := by
            have := (List.getElem?_eq_some_iff.mp h1).1
            simp at this
            omega
          subst this
          simp at h1
          subst h1
          rw [hx', g0] at h2
          cases h2
          exact ⟨y0, y1⟩
      have t18 : (18 : Int).toNat = 18 := rfl
      have q0 : 0 < sizes[k] := hsk.1
      by_cases h18 : cell < 10 ^ 18
      · refine ⟨_, [some (.sh (.int cell)), some (.sh (iDs sizes)), some (.lst (iOs (xs ++ [stir cell (0 + (k : Nat)) % sizes[k]]))), some (.sh (.int rest)), some (.sh (.int (0 + (k : Nat))))], rfl, .inl ?_, rest, xs ++ [stir cell (0 + (k : Nat)) % sizes[k]], rfl, by simp; omega, key _ (Int.emod_nonneg _ (by omega)) (Int.emod_lt_of_pos _ hsk.1)⟩
        get_elem_tactic_trivial
        rw [iOs, iOs, List.map_append]; rfl
      · by_cases hr : rest = 0
        · refine ⟨_, [some (.sh (.int cell)), some (.sh (iDs sizes)), some (.lst (iOs (xs ++ [stir cell (0 + (k : Nat)) % sizes[k]]))), some (.sh (.int (rest))), some (.sh (.int (0 + (k : Nat))))], rfl, .inl ?_, rest, xs ++ [stir cell (0 + (k : Nat)) % sizes[k]], rfl, by simp; omega, key _ (Int.emod_nonneg _ (by omega)) (Int.emod_lt_of_pos _ hsk.1)⟩
          get_elem_tactic_trivial
          rw [iOs, iOs, List.map_append]; rfl
        · have dv : divOk rest sizes[k] = true := divOk_n (n := 62) hsk.1 (by omega) (by decide) (by decide)
          refine ⟨_, [some (.sh (.int cell)), some (.sh (iDs sizes)), some (.lst (iOs (xs ++ [rest % sizes[k]]))), some (.sh (.int (rest / sizes[k]))), some (.sh (.int (0 + (k : Nat))))], rfl, .inl ?_, rest / sizes[k], xs ++ [rest % sizes[k]], rfl, by simp; omega, key _ (Int.emod_nonneg _ (by omega)) (Int.emod_lt_of_pos _ hsk.1)⟩
          get_elem_tactic_trivial
          rw [iOs, iOs, List.map_append]; rfl)
  rw [upto_len] at h3
  refine ⟨xs, ?_, by rw [h3]; omega, h4⟩
  have rg : rngOk (sizes.length : Nat) = true := rngOk_of (by omega) (by omega)
  unfold m_drawn b_drawn
  decreasing_trivial_pre_omega
  rw [sFor_ok (iRange1_ok (ρ1 := [some (.sh (.int cell)), some (.sh (iDs sizes)), some (.lst []), some (.sh (.int cell)), none]) (j := (sizes.length : Nat)) (by decreasing_trivial_pre_omega; rw [List.length_map]) rg)]
  decreasing_trivial_pre_omega
  rw [Int.toNat_natCast, show OV.lst [] = OV.lst (iOs []) from rfl, h1, h2]
  decreasing_trivial_pre_omega
theorem cutD_map {α β : Type} (f : α → β) (xs : List α) (lo hi : Option Int) : cutD (xs.map f) lo hi = (cutD xs lo hi).map f := by
  unfold cutD
  rw [List.length_map, List.map_take, List.map_drop]
theorem cutD_len {α : Type} (xs : List α) (lo hi : Option Int) : (cutD xs lo hi).length ≤ xs.length := by
  unfold cutD
  rw [List.length_take, List.length_drop]
  omega
theorem gAdd_lst {xs ys : List OV} (h : xs.length + ys.length ≤ sizeLine) : gAdd (.lst xs) (.lst ys) = some (.lst ((xs.map fz ++ ys.map fz).map .sh)) := by
  unfold gAdd
  rw [fz_lst, fz_lst]
  simp only [List.length_map, h, if_true]
/-- [0] + script[:n], walked -/
theorem scriptIter {ns : List Int} {ρ : Rho} {n : Int} (h : ns.length ≤ 63) : ∃ ms : List Int, iVal (eBin gAdd (eLst (lCons (cC (.int 0)) lNil)) (eSl (eV 0) none (some (cC (.int n))))) (some (.sh (iDs ns)) :: ρ) = .ok (ms.map .int) (some (.sh (iDs ns)) :: ρ) := by
  refine ⟨0 :: cutD ns none (some n), iVal_ok (o := .lst ((PyData.int 0 :: (cutD ns none (some n)).map .int).map .sh)) ?_ ?_⟩
  · have c : gSl (.sh (iDs ns)) none (some n) = some (.lst (((cutD ns none (some n)).map PyData.int).map .sh)) := by
      unfold gSl
      simp only [fz_sh, cutD_map]
    have hl := cutD_len ns none (some n)
    have g : gAdd (.lst [.sh (.int 0)]) (.lst (((cutD ns none (some n)).map PyData.int).map .sh)) = some (.lst ((PyData.int 0 :: (cutD ns none (some n)).map .int).map .sh)) := by
      rw [gAdd_lst (by simp only [List.length_map, List.length_cons, List.length_nil, sizeLine_eq]; omega), map_sh_fz]
      rfl
    unfold eSl partR
    decreasing_trivial_pre_omega
    rw [c]
    decreasing_trivial_pre_omega
    rw [g]
    decreasing_trivial_pre_omega
  · rw [fz_lst, map_sh_fz]; rfl
end Ev
namespace Ev
open PySem PySem.Spec L2
open PyProof.Rows hiding St

/-! ### x is True, x is not False -/
def blV (b : Bool) : OV → Bool
  | .sh (.bool c) => c == b
  | _ => false
def rIsB (neg : Bool) : R2 := fun x y H Q => ∃ b, y = .bl b ∧ Q (.bl (neg ^^ decide (x = .bl b))) H
section
variable {X : Cx} {W : WX} {e a b c : Expr} {es : List Expr} {f fa fb fk : Rho → Re} {fl : Rho → ReL} {pos apos cpos p : Pos} {n m k : Nat} {x : Str}
theorem is_bl {x : V} {v : Value} {b : Bool} (rx : RelV x v) : plainIs v (.bool b) = true ∧ (v == Value.bool b) = decide (x = .bl b) := by
  cases x with
  | bl c => cases rx; exact ⟨rfl, by cases b <;> cases c <;> rfl⟩
  | non => cases rx; exact ⟨rfl, rfl⟩
  | ref a => cases rx; exact ⟨rfl, rfl⟩
  | ty n => cases rx; exact ⟨rfl, rfl⟩
  | int i => obtain ⟨t, rfl⟩ := rx; exact ⟨rfl, rfl⟩
  | str i => obtain ⟨t, rfl⟩ := rx; exact ⟨rfl, rfl⟩
  | byt i => obtain ⟨t, rfl⟩ := rx; exact ⟨rfl, rfl⟩
  | flt i => obtain ⟨t, rfl⟩ := rx; exact ⟨rfl, rfl⟩
theorem op_isB : OpR X (compareOp .Is) (rIsB false) := by
  intro pins s σ H x y v u Q I rx ry ⟨b, ey, q⟩
  subst ey
  cases ry
  obtain ⟨h1, h2⟩ := is_bl (b := b) rx
  exact PySem.wpAny_is_plain h1 (fin_bl I q (by rw [h2, Bool.false_xor]))
theorem op_isntB : OpR X (compareOp .IsNot) (rIsB true) := by
  intro pins s σ H x y v u Q I rx ry ⟨b, ey, q⟩
  subst ey
  cases ry
  obtain ⟨h1, h2⟩ := is_bl (b := b) rx
  show wpAny _ _ ((isSame v (Value.bool b)) >>= fun z => pure (Value.bool (!z))) _ _ s
  exact wpAny_bind (PySem.wpAny_isSame_plain h1 (wpAny_pure (fin_bl I q (by rw [h2, Bool.true_xor]))))
def gIsB (neg : Bool) (a b : OV) : Option OV := match b with
  | .sh (.bool c) => some (.sh (.bool (neg ^^ blV c a)))
  | _ => none
theorem op2_isB {K : PySem.W.Frag} {neg : Bool} : Op2 K (rIsB neg) (gIsB neg) := by
  intro Hf its F H x y a b c Q s h q
  unfold gIsB at h
  split at h
  · rename_i c0
    cases h
    have e := rp_bl s.rp
    subst e
    obtain ⟨bs, ho⟩ := SX.own s.drop
    have e2 : decide (x = .bl c0) = blV c0 a := by
      cases ho with
      | sh r =>
        cases r <;> first
          | rfl
          | (rename_i z; cases z <;> cases c0 <;> rfl)
      | lst _ => rfl
      | dk _ _ _ => rfl
      | dt _ _ _ => rfl
    refine ⟨c0, rfl, q _ _ _ (Same.refl _) (s.drop.drop.add ?_)⟩
    rw [e2]; exact .bl _
  · cases h
theorem ec_isB (ha : EvE X W a fa) (hb : EvE X W b fb) : EvC X W .Is a b (eBin (gIsB false) fa fb) := ec_op op_isB op2_isB ha hb
theorem ec_isntB (ha : EvE X W a fa) (hb : EvE X W b fb) : EvC X W .IsNot a b (eBin (gIsB true) fa fb) := ec_op op_isntB op2_isB ha hb

/-! ### reading what is owned, and leaving it owned -/
/-- an operation that reads two data and answers what stands by itself -/
def OpP (K : PySem.W.Frag) (r : R2) (g : PyData → PyData → Option PyData) : Prop :=
  ∀ (H : Hp) (x y : V) (d e c : PyData) (Q : VK), Rp K H x d → Rp K H y e → g d e = some c → (∀ v, (∀ H', Rp K H' v c) → Q v H) → r x y H Q
def gEqP (neg : Bool) (d e : PyData) : Option PyData := if SeqAt.shaped d = true ∧ SeqAt.shaped e = true then some (.bool (neg ^^ PyData.eqv d e)) else none
theorem opp_eq {K : PySem.W.Frag} : OpP K (rEqD K) (gEqP false) := by
  intro H x y d e c Q r1 r2 h q
  unfold gEqP at h
  split at h
  · rename_i hc
    cases h
    exact ⟨_, _, r1.dp (SeqAt.canLay_of_shaped hc.1), r2.dp (SeqAt.canLay_of_shaped hc.2), hc.1, hc.2, q _ fun _ => by rw [Bool.false_xor]; exact .bl _⟩
  · cases h
theorem opp_ne {K : PySem.W.Frag} : OpP K (rNeD K) (gEqP true) := by
  intro H x y d e c Q r1 r2 h q
  unfold gEqP at h
  split at h
  · rename_i hc
    cases h
    exact ⟨_, _, r1.dp (SeqAt.canLay_of_shaped hc.1), r2.dp (SeqAt.canLay_of_shaped hc.2), hc.1, hc.2, q _ fun _ => by rw [Bool.true_xor]; exact .bl _⟩
  · cases h
def ofP (o : Option PyData) (ρ : Rho) : Re := match o with
  | some c => .ok (.sh c) ρ
  | none => .stk
/-- the right operand is the slot i, read -/
def eBR (g : PyData → PyData → Option PyData) (fa : Rho → Re) (i : Nat) (ρ : Rho) : Re := bindE (fa ρ) fun a ρ1 => match ρ1[i]? with
  | some (some o) => ofP (g (fz a) (fz o)) ρ1
  | _ => .stk
/-- the left operand is the slot i, read -/
def eBL (g : PyData → PyData → Option PyData) (i : Nat) (fb : Rho → Re) (ρ : Rho) : Re := if isOv ρ i = true then bindE (fb ρ) fun b ρ1 => match ρ1[i]? with
  | some (some o) => ofP (g (fz o) (fz b)) ρ1
  | _ => .stk
  else .stk
theorem br_post {r : R2} {g : PyData → PyData → Option PyData} (ho : OpP X.K r g) {σ : St} {H : Hp} {Q : VK} {Hf : Hp} {T : Its} {ρ : Rho} {F : Bs} {i : Nat} (s : SI X.K Hf T ρ F σ H) (h : PostE X W Hf T F σ (eBR g fa i ρ) Q) : tOp r (tE X W fa) (tVar i) σ H Q := by
  refine ⟨Hf, T, ρ, F, s, PostE.bind h fun a ρ1 x H1 Hf1 sm s1 h1 => ?_⟩
  cases q : ρ1[i]? with
  | none => simp only [q] at h1; exact h1.elim
  | some y =>
    cases y with
    | none => simp only [q] at h1; exact h1.elim
    | some o =>
      simp only [q] at h1
      obtain ⟨v, hv, s2, _⟩ := s1.take q
      refine ⟨v, hv, ?_⟩
      have rx : Rp X.K H1 x (fz a) := s1.rdH
      have ry : Rp X.K H1 v (fz o) := s2.rdH
      unfold ofP at h1
      cases q2 : g (fz a) (fz o) with
      | none => simp only [q2] at h1; exact h1.elim
      | some c =>
        simp only [q2] at h1
        exact ho H1 x v _ _ c Q rx ry q2 fun w hw => h1 w H1 Hf1 (Same.refl _) (s1.drop.add (hw Hf1))
theorem bl_post {r : R2} {g : PyData → PyData → Option PyData} (ho : OpP X.K r g) {σ : St} {H : Hp} {Q : VK} {Hf : Hp} {T : Its} {ρ : Rho} {F : Bs} {i : Nat} (s : SI X.K Hf T ρ F σ H) (h : PostE X W Hf T F σ (eBL g i fb ρ) Q) : tOp r (tVar i) (tE X W fb) σ H Q := by
  unfold eBL at h
  by_cases ov : isOv ρ i = true
  case neg => rw [if_neg ov] at h; exact h.elim
  rw [if_pos ov] at h
  obtain ⟨o0, q0⟩ := isOv_iff ov
  obtain ⟨v0, hv0, _, _⟩ := s.take q0
  refine ⟨v0, hv0, Hf, T, ρ, F, s, PostE.bind h fun b ρ1 y H1 Hf1 sm s1 h1 => ?_⟩
  cases q : ρ1[i]? with
  | none => simp only [q] at h1; exact h1.elim
  | some z =>
    cases z with
    | none => simp only [q] at h1; exact h1.elim
    | some o =>
      simp only [q] at h1
      obtain ⟨v, hv, s2, _⟩ := s1.take q
      rw [hv0] at hv
      obtain rfl : v0 = v := by injection hv with z; injection z
      have ry : Rp X.K H1 y (fz b) := s1.rdH
      have rx : Rp X.K H1 v0 (fz o) := s2.rdH
      unfold ofP at h1
      cases q2 : g (fz o) (fz b) with
      | none => simp only [q2] at h1; exact h1.elim
      | some c =>
        simp only [q2] at h1
        exact ho H1 v0 y _ _ c Q rx ry q2 fun w hw => h1 w H1 Hf1 (Same.refl _) (s1.drop.add (hw Hf1))
theorem pc_of {op : CmpOp} {r : R2} {ta tb : TE} (hr : OpR X (compareOp op) r) (ha : PE X a ta) (hb : PE X b tb) : PC X op a b (tOp r ta tb) :=
  ⟨fun pins s σ H Q I h => binT ha hb I h fun v u s2 x y H2 I2 rx ry q => hr pins s2 σ H2 x y v u Q I2 rx ry q⟩
theorem ec_br {op : CmpOp} {r : R2} {g : PyData → PyData → Option PyData} {i : Nat} (hr : OpR X (compareOp op) r) (ho : OpP X.K r g) (ha : EvE X W a fa) (hb : PE X b (tVar i)) : EvC X W op a b (eBR g fa i) :=
  pc_w (pc_of hr ha hb) fun σ H Q ⟨Hf, T, ρ, F, s, h⟩ => br_post ho s h
theorem ec_bl {op : CmpOp} {r : R2} {g : PyData → PyData → Option PyData} {i : Nat} (hr : OpR X (compareOp op) r) (ho : OpP X.K r g) (ha : PE X a (tVar i)) (hb : EvE X W b fb) : EvC X W op a b (eBL g i fb) :=
  pc_w (pc_of hr ha hb) fun σ H Q ⟨Hf, T, ρ, F, s, h⟩ => bl_post ho s h
theorem ec_eqL {i : Nat} (G : Good X W n) (ha : PE X a (tVar i)) (hb : EvE X W b fb) : EvC X W .Eq a b (eBL (gEqP false) i fb) := ec_bl (opr_eq G) opp_eq ha hb
theorem ec_neL {i : Nat} (G : Good X W n) (ha : PE X a (tVar i)) (hb : EvE X W b fb) : EvC X W .NotEq a b (eBL (gEqP true) i fb) := ec_bl (opr_ne G) opp_ne ha hb
theorem ec_eqR {i : Nat} (G : Good X W n) (ha : EvE X W a fa) (hb : PE X b (tVar i)) : EvC X W .Eq a b (eBR (gEqP false) fa i) := ec_br (opr_eq G) opp_eq ha hb
theorem ec_neR {i : Nat} (G : Good X W n) (ha : EvE X W a fa) (hb : PE X b (tVar i)) : EvC X W .NotEq a b (eBR (gEqP true) fa i) := ec_br (opr_ne G) opp_ne ha hb
end
end Ev
namespace Ev
open PySem PySem.Spec L2
open PyProof.Rows hiding St

section
variable {X : Cx} {W : WX} {e a b c : Expr} {es elts : List Expr} {f fa fb fk : Rho → Re} {fl : Rho → ReL} {pos apos cpos tpos p : Pos} {n m k kk : Nat} {x : Str}
/-- x in (the slot i), the slot left as it is -/
def gInP (neg : Bool) (d e : PyData) : Option PyData := match e with
  | .list ds => if SeqAt.shaped d = true ∧ SeqAt.shaped (.list ds) = true then some (.bool (neg ^^ ds.any fun z => PyData.eqv z d)) else none
  | .tuple ds => if flatD d = true ∧ ds.all flatD = true then some (.bool (neg ^^ ds.any fun z => PyData.eqv z d)) else none
  | .dict kvs => if okK kvs d = true then some (.bool (neg ^^ (dLook kvs d).isSome)) else none
  | .str z => match d with
    | .str y => some (.bool (neg ^^ !(Builtin.Str.occurrences z y 0 z.length 1).isEmpty))
    | _ => none
  | _ => none
theorem opp_in {K : PySem.W.Frag} (neg : Bool) : OpP K (rInAll K neg) (gInP neg) := by
  intro H x y d e c Q rx ry h q
  have fin : ∀ k, c = .bool k → Q (.bl k) H := fun k e => by
    subst e
    exact q _ fun _ => .bl _
  unfold gInP at h
  cases e with
  | list ds =>
    simp only at h
    by_cases hc : SeqAt.shaped d = true ∧ SeqAt.shaped (.list ds) = true
    · rw [if_pos hc] at h
      cases h
      exact .inr (.inl ⟨_, _, rx.dp (SeqAt.canLay_of_shaped hc.1), ry.dp (SeqAt.canLay_of_shaped hc.2), hc.1, hc.2, fin _ rfl⟩)
    · rw [if_neg hc] at h; cases h
  | tuple ds =>
    simp only at h
    by_cases hc : flatD d = true ∧ ds.all flatD = true
    · rw [if_pos hc] at h
      cases h
      obtain ⟨p1, ys, rfl, t1, r1⟩ := ry.sqT
      obtain ⟨h1, h2⟩ := flat_all rx hc.1 r1 hc.2
      refine .inl ⟨p1, ys, rfl, .inr t1, flat_rp rx hc.1, h1, ?_⟩
      cases neg with
      | false => rw [if_neg Bool.false_ne_true, h2]; exact fin _ (by rw [Bool.false_xor])
      | true => rw [if_pos rfl, h2]; exact fin _ (by rw [Bool.true_xor])
    · rw [if_neg hc] at h; cases h
  | dict kvs =>
    simp only at h
    by_cases ok : okK kvs d = true
    · rw [if_pos ok] at h
      cases h
      obtain ⟨ad, o, rfl, hg, he, _⟩ := rp_dget ry rx ok
      exact .inr (.inr (.inl ⟨ad, o, rfl, hg, by rw [he]; exact fin _ rfl⟩))
    · rw [if_neg ok] at h; cases h
  | str z =>
    cases d with
    | str y =>
      simp only at h
      cases h
      have e1 := rp_str rx
      have e2 := rp_str ry
      subst e1 e2
      exact .inr (.inr (.inr ⟨_, _, rfl, rfl, fin _ rfl⟩))
    | _ => simp at h
  | _ => simp at h
theorem ec_inR {i : Nat} (G : Good X W n) (ha : EvE X W a fa) (hb : PE X b (tVar i)) : EvC X W .In a b (eBR (gInP false) fa i) := ec_br (opr_in G) (opp_in false) ha hb
theorem ec_notinR {i : Nat} (G : Good X W n) (ha : EvE X W a fa) (hb : PE X b (tVar i)) : EvC X W .NotIn a b (eBR (gInP true) fa i) := ec_br (opr_notin G) (opp_in true) ha hb

/-! ### enumerate, zip, range of three -/
def enumD (i : Nat) : List PyData → List PyData
  | [] => []
  | d :: ds => .tuple [.int (i : Nat), d] :: enumD (i + 1) ds
theorem enumD_len : ∀ (i : Nat) (ds : List PyData), (enumD i ds).length = ds.length
  | _, [] => rfl
  | i, d :: ds => congrArg (· + 1) (enumD_len (i + 1) ds)
theorem enumD_get : ∀ (i : Nat) (ds : List PyData) (k : Nat) (d : PyData), ds[k]? = some d → (enumD i ds)[k]? = some (.tuple [.int ((i + k : Nat) : Int), d])
  | _, [], _, _, h => by simp at h
  | i, d :: ds, 0, _, h => by simp at h; subst h; rfl
  | i, d :: ds, k + 1, d', h => by
    have := enumD_get (i + 1) ds k d' (by simpa using h)
    have e : i + 1 + k = i + (k + 1) := by omega
    rw [e] at this
    exact this
theorem walkD_enum {K : PySem.W.Frag} {Hf : Hp} {a : Addr} {xs : List V} {ds : List PyData} (h : SqL K Hf a xs) (r : RpAll K Hf xs ds) : WalkD K Hf (Ite K a) (enumD 0 ds) := by
  refine ⟨fun i H hi e => ?_, fun H e => ⟨xs, e.sqL h, by rw [enumD_len, r.len]; exact Nat.le_refl _⟩, fun i H y H' hi e q => ?_⟩
  · rw [enumD_len] at hi
    obtain ⟨v, h1, _⟩ := r.get (List.getElem?_eq_getElem hi)
    exact ⟨xs, v, e.sqL h, h1⟩
  · obtain ⟨T, x, rfl, hT, rfl, fx⟩ := q
    obtain ⟨d, hd, rd⟩ := r.get' (fx xs (e.sqL h))
    refine ⟨_, enumD_get 0 ds i d hd, .inr ⟨T, _, _, rfl, hT, rfl, .cons ?_ (.cons rd .nil), rfl⟩⟩
    rw [Nat.zero_add]
    exact .int _
def pairD : List PyData → List PyData → List PyData
  | x :: xs, y :: ys => .tuple [x, y] :: pairD xs ys
  | _, _ => []
theorem pairD_len : ∀ (xs ys : List PyData), (pairD xs ys).length = min xs.length ys.length
  | [], _ => by simp [pairD]
  | _ :: _, [] => by simp [pairD]
  | x :: xs, y :: ys => by simp [pairD, pairD_len xs ys, Nat.succ_min_succ]
theorem pairD_get : ∀ (xs ys : List PyData) (k : Nat) (x y : PyData), xs[k]? = some x → ys[k]? = some y → (pairD xs ys)[k]? = some (.tuple [x, y])
  | [], _, _, _, _, h, _ => by simp at h
  | _ :: _, [], _, _, _, _, h => by simp at h
  | a :: xs, b :: ys, 0, _, _, h, h2 => by simp at h h2; subst h h2; rfl
  | a :: xs, b :: ys, k + 1, x, y, h, h2 => pairD_get xs ys k x y (by simpa using h) (by simpa using h2)
theorem walkD_zip {K : PySem.W.Frag} {Hf : Hp} {a b : Addr} {xs ys : List V} {ds es : List PyData} (h : SqL K Hf a xs) (h2 : SqL K Hf b ys) (r : RpAll K Hf xs ds) (r2 : RpAll K Hf ys es) : WalkD K Hf (Itz K a b) (pairD ds es) := by
  refine ⟨fun i H hi e => ?_, fun H e => ⟨xs, ys, e.sqL h, e.sqL h2, by rw [pairD_len, r.len, r2.len]; omega⟩, fun i H y H' hi e q => ?_⟩
  · rw [pairD_len] at hi
    obtain ⟨v, h1, _⟩ := r.get (List.getElem?_eq_getElem (by omega : i < ds.length))
    obtain ⟨w, h3, _⟩ := r2.get (List.getElem?_eq_getElem (by omega : i < es.length))
    exact ⟨xs, ys, v, w, e.sqL h, e.sqL h2, h1, h3⟩
  · obtain ⟨T, x, z, rfl, hT, rfl, fx, fy⟩ := q
    obtain ⟨d, hd, rd⟩ := r.get' (fx xs (e.sqL h))
    obtain ⟨d2, hd2, rd2⟩ := r2.get' (fy ys (e.sqL h2))
    exact ⟨_, pairD_get ds es i d d2 hd hd2, .inr ⟨T, _, _, rfl, hT, rfl, .cons rd (.cons rd2 .nil), rfl⟩⟩
theorem walkD_zipT {K : PySem.W.Frag} {Hf : Hp} {a b : Addr} {xs ys : List V} {ds es : List PyData} (h : SqT K Hf a xs) (h2 : SqT K Hf b ys) (r : RpAll K Hf xs ds) (r2 : RpAll K Hf ys es) : WalkD K Hf (RZ.ItzT K a b) (pairD ds es) := by
  refine ⟨fun i H hi e => ?_, fun H e => ⟨xs, ys, e.sqT h, e.sqT h2, by rw [pairD_len, r.len, r2.len]; omega⟩, fun i H y H' hi e q => ?_⟩
  · rw [pairD_len] at hi
    obtain ⟨v, h1, _⟩ := r.get (List.getElem?_eq_getElem (by omega : i < ds.length))
    obtain ⟨w, h3, _⟩ := r2.get (List.getElem?_eq_getElem (by omega : i < es.length))
    exact ⟨xs, ys, v, w, e.sqT h, e.sqT h2, h1, h3⟩
  · obtain ⟨T, x, z, rfl, hT, rfl, fx, fy⟩ := q
    obtain ⟨d, hd, rd⟩ := r.get' (fx xs (e.sqT h))
    obtain ⟨d2, hd2, rd2⟩ := r2.get' (fy ys (e.sqT h2))
    exact ⟨_, pairD_get ds es i d d2 hd hd2, .inr ⟨T, _, _, rfl, hT, rfl, .cons rd (.cons rd2 .nil), rfl⟩⟩
/-- for k, x in enumerate(xs): a list -/
def iEnumL (fl : Rho → ReL) (ρ : Rho) : ReI := match fl ρ with
  | .ok [o] ρ1 => match fz o with
    | .list ds => .ok (enumD 0 ds) ρ1
    | _ => .stk
  | .exc e ρ1 => .exc e ρ1
  | _ => .stk
theorem ei_enum (hg : Gl X "enumerate") (hm : X.mg "enumerate" = none) (h : EvL X W [e] fl) (hs : starEach [e] X.env = [(false, eval e X.env)] := by rfl) : EvI X W (.Tuple elts kk tpos) (.Call (.Name "enumerate" p) [e] [] pos) (iEnumL fl) :=
  pi_w (pi_enum hg hm h hs) fun σ H R ⟨Hf, T, ρ, F, s, h⟩ => by
    refine ⟨Hf, T, ρ, F, s, ?_⟩
    unfold iEnumL at h
    cases q : fl ρ with
    | exc e ρ1 => rw [q] at h; exact h
    | stk => rw [q] at h; exact h
    | ok os ρ1 =>
      rw [q] at h
      intro vs H1 Hf1 l sm s1
      match os, vs, l, h, s1 with
      | [o], [v], _, h, s1 =>
        simp only at h
        obtain ⟨Hf2, sm2, s2⟩ := SI.freeze (T := T) s1
        cases hd : fz o with
        | list ds =>
          rw [hd] at s2
          simp only [hd] at h
          obtain ⟨ad, xs, rfl, t1, r1⟩ := s2.rp.sqL
          exact ⟨ad, xs, rfl, s2.sub.sqL t1, h _ H1 Hf2 (sm.trans sm2) s2.drop (walkD_enum t1 r1)⟩
        | _ => simp only [hd] at h
      | [], _, _, h, _ => exact h.elim
      | _ :: _ :: _, _, _, h, _ => exact h.elim
/-- for x, y in zip(xs, ys): two lists or two tuples -/
def iZip (fl : Rho → ReL) (ρ : Rho) : ReI := match fl ρ with
  | .ok [o, o2] ρ1 => match fz o, fz o2 with
    | .list ds, .list es => .ok (pairD ds es) ρ1
    | .tuple ds, .tuple es => .ok (pairD ds es) ρ1
    | _, _ => .stk
  | .exc e ρ1 => .exc e ρ1
  | _ => .stk
theorem ei_zip (hg : Gl X "zip") (hm : X.mg "zip" = none) (h : EvL X W [a, b] fl)
    (hs : starEach [a, b] X.env = (false, eval a X.env) :: starEach [b] X.env := by rfl) (hpl : (backTo pos (starEach [b] X.env)).any (·.1) = false := by rfl) : EvI X W (.Tuple elts kk tpos) (.Call (.Name "zip" p) [a, b] [] pos) (iZip fl) :=
  pi_w (RZ.pi_zipA hg hm h hs hpl) fun σ H R ⟨Hf, T, ρ, F, s, h⟩ => by
    refine ⟨Hf, T, ρ, F, s, ?_⟩
    unfold iZip at h
    cases q : fl ρ with
    | exc e ρ1 => rw [q] at h; exact h
    | stk => rw [q] at h; exact h
    | ok os ρ1 =>
      rw [q] at h
      intro vs H1 Hf1 l sm s1
      match os, vs, l, h, s1 with
      | [o, o2], [v, w], _, h, s1 =>
        simp only at h
        obtain ⟨Hf2, sm2, s2⟩ := SI.freeze (T := (w, o2) :: T) s1
        obtain ⟨its, hs', s3⟩ := s2.ex
        have s3 : SX X.K Hf2 ((w, o2) :: (v, .sh (fz o)) :: (T ++ its)) F H1 := s3.perm (List.Perm.swap _ _ _)
        obtain ⟨Hf3, sm3, s4⟩ := s3.freeze
        have rw2 := s4.rp
        have rv := s4.drop.rp
        have s5 : SI X.K Hf3 T ρ1 F σ H1 := ⟨its, hs', s4.drop.drop⟩
        have sm' := (sm.trans sm2).trans sm3
        cases hd : fz o with
        | list ds =>
          rw [hd] at rv
          cases hd2 : fz o2 with
          | list es =>
            rw [hd2] at rw2
            simp only [hd, hd2] at h
            obtain ⟨ad, xs, rfl, t1, r1⟩ := rv.sqL
            obtain ⟨bd, ys, rfl, t2, r2⟩ := rw2.sqL
            exact ⟨ad, bd, xs, ys, rfl, .inl ⟨s4.sub.sqL t1, s4.sub.sqL t2, h _ H1 Hf3 sm' s5 (walkD_zip t1 t2 r1 r2)⟩⟩
          | _ => simp only [hd, hd2] at h
        | tuple ds =>
          rw [hd] at rv
          cases hd2 : fz o2 with
          | tuple es =>
            rw [hd2] at rw2
            simp only [hd, hd2] at h
            obtain ⟨ad, xs, rfl, t1, r1⟩ := rv.sqT
            obtain ⟨bd, ys, rfl, t2, r2⟩ := rw2.sqT
            exact ⟨ad, bd, xs, ys, rfl, .inr ⟨s4.sub.sqT t1, s4.sub.sqT t2, h _ H1 Hf3 sm' s5 (walkD_zipT t1 t2 r1 r2)⟩⟩
          | _ => simp only [hd, hd2] at h
        | _ => simp only [hd] at h
      | [], _, _, h, _ => exact h.elim
      | [_], _, _, h, _ => exact h.elim
      | _ :: _ :: _ :: _, _, _, h, _ => exact h.elim
end
end Ev
namespace Ev
open PySem PySem.Spec L2
open PyProof.Rows hiding St

/-! ### sorted(xs): a list or a tuple of alike data -/
section
variable {prog : Program} {w : World} {A : Around} {E : Value → Shared → Prop} {s : Shared}
/-- a list's or a tuple's items, gathered: the heap behind, told whole -/
abbrev gathered (h : Heap) (xs : Array Value) : Heap := (h.push { cls := .type "list", data := .seq ([] : List Value).toArray }).update h.objs.size (Obj.mapSeq (· ++ xs))
theorem gathered_old {h : Heap} {xs : Array Value} {b : Addr} {o : Obj} (e : h.get? b = some o) : (gathered h xs).get? b = some o := by
  have lt := Heap.lt_size e
  first
    | exact (Heap.get?_update_other _ _ (Nat.ne_of_gt lt)).trans (Heap.get?_push_of_some _ e)
    | exact (Heap.get?_update_ne _ _ _ _ (Nat.ne_of_lt lt)).trans (Heap.get?_push_of_some _ e)
theorem gathered_size (h : Heap) (xs : Array Value) : (gathered h xs).objs.size = h.objs.size + 1 := by
  unfold gathered
  rw [Heap.size_update, Heap.size_push]
theorem collect_at {it : Addr} {T : String} {o : Obj} {xs : Array Value} {n : Nat} {Q : List Value → Shared → Prop} (hT : T = "list" ∨ T = "tuple") (ho : s.heap.get? it = some o) (hc : o.cls = .type T) (hd : o.data = .seq xs n) (hz : xs.size ≤ sizeLine)
    (q : Q xs.toList { s with heap := gathered s.heap xs }) : wpAny (model prog w) A (collect (.ref it)) Q E s := by
  have new : (s.heap.push { cls := .type "list", data := .seq ([] : List Value).toArray }).get? s.heap.objs.size = some { cls := .type "list", data := .seq #[] 0 } := Heap.get?_push_size _ rfl
  have full : (gathered s.heap xs).get? s.heap.objs.size = some { cls := .type "list", data := .seq (#[] ++ xs) 1 } ∨ ∃ k, (gathered s.heap xs).get? s.heap.objs.size = some { cls := .type "list", data := .seq (#[] ++ xs) k } := .inr ⟨_, Heap.get?_update_self (Obj.mapSeq (· ++ xs)) new rfl⟩
  obtain ⟨k, full⟩ : ∃ k, (gathered s.heap xs).get? s.heap.objs.size = some { cls := .type "list", data := .seq (#[] ++ xs) k } := by
    rcases full with z | z
    · exact ⟨_, z⟩
    · exact z
  have last : wpAny (model prog w) A (load s.heap.objs.size >>= fun ob => match ob.data with | Data.seq ys _ => pure ys.toList | _ => unsupported "internal:collect") Q E { s with heap := gathered s.heap xs } :=
    wpAny_bind (wpAny_load full (wpAny_pure (by rw [show ((#[] : Array Value) ++ xs).toList = xs.toList from by simp]; exact q)))
  have ext := PySem.wpAny_extend_seq (prog := prog) (w := w) (hsz := hz) (A := A) (R := fun r s' => r = .ok (.ret (.ref s.heap.objs.size)) ∧ s' = { s with heap := gathered s.heap xs }) (s := { s with heap := s.heap.push { cls := .type "list", data := .seq ([] : List Value).toArray } }) s.heap.objs.size it (.ref s.heap.objs.size) 0 hT new (Heap.get?_push_of_some _ ho) hc hd ⟨rfl, rfl⟩
  unfold collect
  refine wpAny_bind (wpAny_runValue ?_); refine codeAny_builtin F.entry_proto_collect ?_
  rw [Around.under_plainId F.plain_proto_collect _]; show wpAny _ _ (newList [] >>= _) _ _ _
  refine wpAny_bind (wpAny_newObj_type ?_); refine wpAny_pure ⟨plainId_quiet F.plain_list_iadd _, ?_⟩
  refine codeAny_builtin F.entry_list_iadd ?_; rw [Around.under_plainId F.plain_list_iadd _]
  refine wpAny_mono ext (fun fin s' z => ?_) fun e s' z => absurd z.1 (by simp)
  cases fin with
  | done f => obtain ⟨z1, rfl⟩ := z; cases z1; exact last
  | again c' => exact ⟨z.1, codeAny_mono z.2 fun r s'' hr => by obtain ⟨rfl, rfl⟩ := hr; exact last⟩
open PySem.W in
theorem sorted_seq {β : Type} {l : Addr} {T : String} {o : Obj} {items : Array Value} {n : Nat} {bs : List β} {enc : β → PyData} {R : Value → β → Prop} {Q : Value → Shared → Prop} (hT : T = "list" ∨ T = "tuple") (ho : s.heap.get? l = some o) (hc : o.cls = .type T) (hd : o.data = .seq items n)
    (e : EachIs R items.toList bs) (er : EachIs (fun v b => ∃ as, Reads s.heap v (enc b) as) items.toList bs) (hal : AllAlike (bs.map enc)) (hk : Sortable (bs.map enc)) (hL : bs.length ≤ sizeLine) (hu : ∀ b, b ∈ bs → A.units + 2 + (enc b).depth < cLine)
    (h : ∀ (h' : Heap) (a : Addr) (out : List Value) (c : Nat), s.heap.objs.size ≤ a → (∀ b o, s.heap.get? b = some o → h'.get? b = some o) → h'.get? a = some (seqObj "list" out.toArray c) → out.length = bs.length → EachIs R out (bs.mergeSort (dataLe false enc)) → Q (.ref a) { s with heap := h' }) :
    wpAny (model prog w) A (call (.builtin "sorted") [.ref l]) Q E s := by
  have hlen : items.toList.length = bs.length := e.length
  have hsz : items.size ≤ sizeLine := by
    have : items.toList.length = items.size := by simp
    omega
  refine call_function_entry_kw kind_sorted plain_sorted entry_sorted (args_sorted1 _) ?_
  unfold Builtin.«sorted»
  refine wpAny_bind (m := checkCount "sorted" 1 1 _) (wpAny_pure ?_)
  refine wpAny_bind (collect_at hT ho hc hd hsz ?_)
  refine wpAny_bind (wpAny_newList ?_ (by rw [hlen]; exact hL))
  have ze := gathered_size s.heap items
  have k1 : ∀ b o, s.heap.get? b = some o → (gathered s.heap items).get? b = some o := fun b o q => gathered_old q
  generalize gathered s.heap items = h1 at ze k1 ⊢
  have ho2 : (h1.push { cls := .type "list", data := .seq items.toList.toArray }).get? h1.objs.size = some (seqObj "list" items.toList.toArray 0) := Heap.get?_push_size _ rfl
  have k2 : ∀ b o, s.heap.get? b = some o → (h1.push { cls := .type "list", data := .seq items.toList.toArray }).get? b = some o := fun b o q => Heap.get?_push_of_some _ (k1 b o q)
  have le : s.heap.objs.size ≤ h1.objs.size := by rw [ze]; exact Nat.le_succ _
  have ne : ∀ b o, s.heap.get? b = some o → b ≠ h1.objs.size := fun b o q => Nat.ne_of_lt (Nat.lt_of_lt_of_le (Heap.lt_size q) le)
  generalize hh2 : h1.push { cls := .type "list", data := .seq items.toList.toArray } = h2 at ho2 k2 ⊢
  have er' : EachIs (fun v b => ∃ as, Reads (sortingHeap h2 h1.objs.size items.toList) v (enc b) as) items.toList bs := er.mono fun _ _ ⟨as, r⟩ => ⟨as, PyProof.Rows.Reads.keeps (fun b o q => sortingHeap_old (ne b o q) (k2 b o q)) r⟩
  refine wpAny_bind (wpAny_holding (wpAny_call_entry_kw slot_list_sort ⟨_, ho2, rfl⟩ entry_list_sort ?_ (args_list_sort _)))
  refine list_sort_vals (κ := dataKind (sortingHeap h2 h1.objs.size items.toList) (bs.map enc)) (s := { s with heap := h2 }) ho2 (SortsAt.data (s := { s with heap := sortingHeap h2 h1.objs.size items.toList }) (each_map (R := fun v d => ∃ as, Reads (sortingHeap h2 h1.objs.size items.toList) v d as) enc er') hal hk (bound_map hu)) (by rw [hlen]; exact hL) ⟨_, rfl, wpAny_pure ⟨_, rfl, ?_⟩⟩
  obtain ⟨c, hc2⟩ := sortedHeap_at (out := (sortVals (dataKind (sortingHeap h2 h1.objs.size items.toList) (bs.map enc)) false items.toList items.toList).toArray) ho2
  exact h _ _ _ c le (fun b o q => by rw [sortedHeap_old (ne b o q) (Heap.lt_size (k2 b o q))]; exact k2 b o q) hc2 (by rw [sortVals_length false rfl]; exact e.length) (sortVals_data false e er' hal)
end
section
variable {X : Cx} {W : WX} {e : Expr} {es : List Expr} {fl : Rho → ReL} {pos p : Pos} {n m : Nat} {x : Str}
def tupB : PyData → Bool
  | .tuple (_ :: _) => true
  | _ => false
def offB : PyData → Bool
  | .none => false
  | .tuple _ => false
  | _ => true
/-- may these be sorted -/
def sortOk (ds : List PyData) : Bool := (ds.all fun d => ds.all fun e => PySem.W.alike d e) && (ds.all tupB || ds.all offB) && (ds.all fun d => SeqAt.shaped d && decide (d.depth ≤ 60)) && decide (ds.length ≤ sizeLine)
def leD (d e : PyData) : Bool := PySem.W.dataLe false (fun z : PyData => z) d e
theorem sortOk_ok {ds : List PyData} (h : sortOk ds = true) : PySem.W.AllAlike ds ∧ PySem.W.Sortable ds ∧ (∀ d ∈ ds, SeqAt.shaped d = true ∧ d.depth ≤ 60) ∧ ds.length ≤ sizeLine := by
  unfold sortOk at h
  simp only [Bool.and_eq_true, Bool.or_eq_true, List.all_eq_true, decide_eq_true_eq] at h
  obtain ⟨⟨⟨h1, h2⟩, h3⟩, h4⟩ := h
  refine ⟨fun d hd d' hd' => h1 d hd d' hd', ?_, h3, h4⟩
  rcases h2 with h2 | h2
  · refine .inl fun d hd => ?_
    have := h2 d hd
    cases d with
    | tuple xs => cases xs with
      | nil => cases this
      | cons y r => exact ⟨y, r, rfl⟩
    | _ => cases this
  · refine .inr fun d hd => ?_
    have := h2 d hd
    cases d with
    | none => cases this
    | tuple xs => cases this
    | _ => exact ⟨by simp, by simp⟩
def rSortD (K : PySem.W.Frag) : List V → Hp → VK → Prop := fun vs H Q => ∃ (a : Addr) (xs : List V) (ds : List PyData), vs = [.ref a] ∧ (SqL K H a xs ∨ SqT K H a xs) ∧ RpAll K H xs ds ∧ sortOk ds = true ∧
  ∀ p, H p = none → Q (.ref p) (upd H p (.lst (((xs.zip ds).mergeSort (PySem.W.dataLe false fun b : V × PyData => b.2)).map (·.1))))
theorem each_zip {h : Heap} : ∀ {xs : List V} {us : List Value} {ds : List PyData}, Vals xs us → xs.length = ds.length → (∀ (v : V) (u : Value) (d : PyData), (v, d) ∈ xs.zip ds → RelV v u → ∃ as, Reads h u d as) →
    PySem.W.EachIs (fun u (b : V × PyData) => RelV b.1 u) us (xs.zip ds) ∧ PySem.W.EachIs (fun u (b : V × PyData) => ∃ as, Reads h u b.2 as) us (xs.zip ds)
  | _, _, [], .nil, _, _ => ⟨.nil, .nil⟩
  | _, _, d :: ds, .cons r t, l, f => by
    obtain ⟨h1, h2⟩ := each_zip t (ds := ds) (by simpa using l) fun v u d' hm => f v u d' (List.mem_cons_of_mem _ hm)
    exact ⟨.cons r h1, .cons (f _ _ _ List.mem_cons_self r) h2⟩
theorem each_vals : ∀ {us : List Value} {bs : List (V × PyData)}, PySem.W.EachIs (fun u (b : V × PyData) => RelV b.1 u) us bs → Vals (bs.map (·.1)) us
  | _, _, .nil => .nil
  | _, _, .cons h t => .cons h (each_vals t)
theorem zip_fst {α β : Type} : ∀ (xs : List α) (ys : List β), xs.length = ys.length → (xs.zip ys).map (·.1) = xs ∧ (xs.zip ys).map (·.2) = ys
  | [], [], _ => ⟨rfl, rfl⟩
  | x :: xs, y :: ys, h => by
    obtain ⟨h1, h2⟩ := zip_fst xs ys (by simpa using h)
    simp [h1, h2]
theorem rp_zip {K : PySem.W.Frag} {H : Hp} : ∀ {xs : List V} {ds : List PyData}, RpAll K H xs ds → ∀ {v : V} {d : PyData}, (v, d) ∈ xs.zip ds → Rp K H v d
  | _, _, .nil, _, _, h => by simp at h
  | _, _, .cons r t, v, d, h => by
    rw [List.zip_cons_cons] at h
    rcases List.mem_cons.mp h with e | h
    · cases e; exact r
    · exact rp_zip t h
theorem call_sortD (hu : X.A.units + 65 < cLine) : CallR X (.builtin "sorted") (rSortD X.K) := by
  intro pins s σ H vs us Q I r ⟨a, xs, ds, ev, hq, rp, ok, q⟩
  subst ev
  obtain ⟨u, eu, rx⟩ := vals1 r
  subst eu
  cases rx
  obtain ⟨hal, hk, hsh, hz⟩ := sortOk_ok ok
  have el := rp.len
  obtain ⟨z1, z2⟩ := zip_fst xs ds el
  have key : ∀ (its : List Value) (T : String) (o : Obj) (n : Nat), T = "list" ∨ T = "tuple" → Vals xs its → s.heap.get? a = some o → o.cls = .type T → o.data = .seq its.toArray n → wpAny (model X.prog X.w) X.A (call (.builtin "sorted") [.ref a]) (EP X pins σ Q) X.xe s := by
    intro its T o n hT rv ho hc hd
    obtain ⟨e1, e2⟩ := each_zip (h := s.heap) rv el fun v u d hm ru => Dp.reads I d v u ((rp_zip rp hm).dp (SeqAt.canLay_of_shaped (hsh d (by rw [← z2]; exact List.mem_map.mpr ⟨(v, d), hm, rfl⟩)).1)) ru
    refine sorted_seq (bs := xs.zip ds) (enc := fun b => b.2) (R := fun u b => RelV b.1 u) hT ho hc hd (by simpa using e1) (by simpa using e2) (by rw [z2]; exact hal) (by rw [z2]; exact hk) (by rw [List.length_zip, el]; omega) (fun b hb => ?_) fun h' p out c le kp hp hl eo => ?_
    · have := (hsh b.2 (by rw [← z2]; exact List.mem_map.mpr ⟨b, hb, rfl⟩)).2
      show X.A.units + 2 + b.2.depth < cLine
      omega
    · have rv' := each_vals eo
      have hlen : (((xs.zip ds).mergeSort (PySem.W.dataLe false fun b : V × PyData => b.2)).map (·.1)).length ≤ sizeLine := by
        rw [List.length_map, List.length_mergeSort, List.length_zip, el]; omega
      exact ⟨.ref p, _, I.laid (t' := s.toks) kp le (show ObjOk X.prog X.w _ _ _ (.lst _) from ⟨hlen, out, c, rv', hp⟩), rfl, q p (I.hok.fresh le)⟩
  rcases hq with hq | hq
  · obtain ⟨its, rv, pl, _⟩ := I.list hq
    obtain ⟨o, n, ho, hc, hd, hdat⟩ := pl
    exact key its "list" o n (.inl rfl) rv ho hc hdat
  · obtain ⟨its, rv, pl, _⟩ := I.tuple hq
    obtain ⟨o, ho, hc, n, hdat⟩ := pl
    exact key its "tuple" o n (.inr rfl) rv ho hc hdat
theorem zip_sort {xs : List V} {ds : List PyData} (l : xs.length = ds.length) : ((xs.zip ds).mergeSort (PySem.W.dataLe false fun b : V × PyData => b.2)).map (·.2) = ds.mergeSort leD := by
  rw [List.map_mergeSort (r := PySem.W.dataLe false fun b : V × PyData => b.2) (s := leD) (f := (·.2)) (l := xs.zip ds) fun a _ b _ => rfl, (zip_fst xs ds l).2]
theorem rpAll_of {K : PySem.W.Frag} {H : Hp} : ∀ {l : List (V × PyData)}, (∀ b ∈ l, Rp K H b.1 b.2) → RpAll K H (l.map (·.1)) (l.map (·.2))
  | [], _ => .nil
  | b :: l, h => .cons (h b List.mem_cons_self) (rpAll_of fun b' hb => h b' (List.mem_cons_of_mem _ hb))
def sortD (ds : List PyData) : Option OV := if sortOk ds = true then some (.lst ((ds.mergeSort leD).map .sh)) else none
def dSorted : PyData → Option OV
  | .list ds => sortD ds
  | .tuple ds => sortD ds
  | _ => none
theorem opn_sorted {K : PySem.W.Frag} : OpN K (rSortD K) (g1 dSorted) := opN1 fun Hf its F H v d c Q s r h q => by
  have key : ∀ (a : Addr) (xs : List V) (ds : List PyData), (SqL K Hf a xs ∨ SqT K Hf a xs) → RpAll K Hf xs ds → sortD ds = some c → rSortD K [.ref a] H Q := by
    intro a xs ds hq ra hs
    unfold sortD at hs
    by_cases ok : sortOk ds = true
    · rw [if_pos ok] at hs
      cases hs
      refine ⟨a, xs, ds, rfl, ?_, RpAll.mono s.sub ra, ok, fun p hp => ?_⟩
      · rcases hq with z | z
        · exact .inl (s.sub.sqL z)
        · exact .inr (s.sub.sqT z)
      · have ra2 : RpAll K Hf (((xs.zip ds).mergeSort (PySem.W.dataLe false fun b : V × PyData => b.2)).map (·.1)) (ds.mergeSort leD) := by
          rw [← zip_sort ra.len]
          exact rpAll_of fun b hb => rp_zip ra ((List.mergeSort_perm _ _).mem_iff.mp hb)
        refine q _ _ Hf (Same.refl _) ?_
        refine SX.newOwn (C := []) (its := its) s hp fun bs hbs => ?_
        cases hbs
        exact .lst (.of_rp ra2)
    · rw [if_neg ok] at hs; cases hs
  unfold dSorted at h
  cases d with
  | list ds =>
    obtain ⟨a, xs, rfl, t1, r1⟩ := r.sqL
    exact key a xs ds (.inl t1) r1 h
  | tuple ds =>
    obtain ⟨a, xs, rfl, t1, r1⟩ := r.sqT
    exact key a xs ds (.inr t1) r1 h
  | _ => cases h
theorem b_sorted (G : Good X W n) (hm : X.mg "sorted" = none) : BIn X "sorted" "sorted" (g1 dSorted) := ⟨⟨_, call_sortD G.hu, opn_sorted⟩, hm, by decide +kernel⟩
end
end Ev
namespace Ev
open PySem PySem.Spec L2
open PyProof.Rows hiding St

/-! ### enumerate(a tuple) -/
section
open PySem.AutoSeq1 in
set_option maxHeartbeats 2000000 in
/-- a new enumerate over what an iterator is made of -/
theorem enum_new1 {v : Value} {o : Obj} {Hh : Heap → Prop} (B : Begins v o Hh) : Meets (Builtin.«enumerate.__new__» ⟨[.type "enumerate", v], []⟩) (fun _ R s => Hh s.heap ∧
    R (.ok (.ret (.ref (s.heap.push o).objs.size))) { s with heap := (s.heap.push o).push { cls := .type "enumerate", data := .fields #[.none, .bool false, .ref s.heap.objs.size, rawInt 0, .none, .none] } }) := by
  refine .of_wp fun prog w A R s h => ?_
  obtain ⟨hp, g, d, tk, os⟩ := s
  obtain ⟨h1, h⟩ := h
  have hsub := sub_enumerate
  have q1 : ∀ {A' : Around} {E : Value → Shared → Prop} {Q : Value → Shared → Prop}, Q (.ref hp.objs.size) ⟨hp.push o, g, d, tk, os⟩ → wpAny (model prog w) A' (pyIter v) Q E ⟨hp, g, d, tk, os⟩ := fun q => B.iter prog w _ _ ⟨hp, g, d, tk, os⟩ _ h1 q
  wp_walk using q1
  refine wpAny_stack_any fun st => wpAny_pure ?_
  split
  · rename_i c _ _ _ _ _
    cases (c == Value.type "enumerate")
    · wp_walk using q1; exact ⟨_, rfl, h⟩
    · wp_walk using q1; exact ⟨_, rfl, h⟩
  · wp_walk using q1; exact ⟨_, rfl, h⟩
end
section
variable {prog : Program} {w : World} {A : Around} {E : Value → Shared → Prop} {s : Shared}
theorem enum_one {v : Value} {o : Obj} {Hh : Heap → Prop} {Q : Value → Shared → Prop} (B : Begins v o Hh) (h1 : Hh s.heap)
    (h : ∀ h', IsEnum h' (s.heap.objs.size + 1) s.heap.objs.size 0 .none → h'.get? s.heap.objs.size = some o → (∀ b o, s.heap.get? b = some o → h'.get? b = some o) → Q (.ref (s.heap.objs.size + 1)) { s with heap := h' }) :
    wpAny (model prog w) A (call (.type "enumerate") [v]) Q E s := by
  have hz : (s.heap.push o).objs.size = s.heap.objs.size + 1 := Heap.size_push ..
  have he : IsEnum ((s.heap.push o).push { cls := .type "enumerate", data := .fields #[.none, .bool false, .ref s.heap.objs.size, rawInt 0, .none, .none] }) (s.heap.objs.size + 1) s.heap.objs.size 0 .none := by
    have z := Heap.get?_push_size (s.heap.push o) (o := { cls := .type "enumerate", data := .fields #[.none, .bool false, .ref s.heap.objs.size, rawInt 0, .none, .none] }) rfl
    rw [hz] at z; exact z
  have fin := h _ he (Heap.get?_push_of_some _ (Heap.get?_push_size _ B.free)) fun b o x => Heap.get?_push_of_some _ (Heap.get?_push_of_some _ x)
  refine callType_new F.called_enumerate (by decide) (F.typeCall_enumerate_1 _) (F.newCall_enumerate_1 _) (fun obj => F.args_object_init_2 obj _) F.entry_enumerate_new (enum_new1 B) ⟨h1, ?_⟩
  show _ ∧ _
  rw [hz]
  exact ⟨⟨_, he, rfl⟩, fin⟩
end
/-- the tuple at a, each item beside its place -/
def ItET (K : PySem.W.Frag) (a : Addr) : It where
  go := fun i H => ∃ (xs : List V) (x : V), SqT K H a xs ∧ xs[i]? = some x
  yld := fun i H v H' => ∃ T x, v = .ref T ∧ H T = none ∧ H' = upd H T (.tup [.int (i : Nat), x]) ∧ ∀ xs, SqT K H a xs → xs[i]? = some x
  stop := fun i H => ∃ xs : List V, SqT K H a xs ∧ xs.length = i
def EnT (a e it : Addr) (i : Nat) (h : Heap) : Prop := (∃ old, IsEnum h e it (i : Nat) old) ∧ h.IsTupleIter it a i ∧ e ≠ it ∧ e ≠ a ∧ a ≠ it
theorem turn_enT {P : Program} {w : World} {K : PySem.W.Frag} {elts : List Expr} {kk : Nat} {tpos : Pos} (a e it : Addr) : Turn P w K (.Tuple elts kk tpos) (ItET K a) [e, it] e (EnT a e it) := by
  have two : ∀ {b : Addr}, b ∈ [e, it] → b = e ∨ b = it := fun hb => by simpa using hb
  refine ⟨by simp, fun i h st b hb => ?_, fun i h h' st k => ?_, ?_, ?_, fun A i s Q E st h => ?_⟩
  · obtain ⟨⟨old, he⟩, ⟨o, ho, hc, hd⟩, _⟩ := st
    rcases two hb with rfl | rfl
    · exact ⟨_, he, fun v q => by cases q⟩
    · exact ⟨o, ho, fun v q => by rw [hd] at q; cases q⟩
  · obtain ⟨⟨old, he⟩, hi, hne⟩ := st
    exact ⟨⟨old, k e (by simp) _ he⟩, hi.at (fun o q => k it (by simp) o q), hne⟩
  · intro X hP hw hK hc i pins s σ H E I hf st hg
    subst hP hw hK
    obtain ⟨⟨old, he⟩, hit, hne, hea, hai⟩ := st
    obtain ⟨xs, x, hq, hx⟩ := hg
    obtain ⟨its, rv, p, _⟩ := I.tuple hq
    obtain ⟨u, hu, ru⟩ := rv.get hx
    have hlt : i < its.toArray.size := by
      have := (List.getElem?_eq_some_iff.mp hu).1
      simpa using this
    have pt : s.heap.IsTuple a its.toArray := p
    have D := Draws.tuple (prog := X.prog) (w := X.w) (A := X.A.in1) (I.ok.hd hc) it a hai its.toArray
    have lE : e < s.heap.objs.size := Heap.lt_size he
    have lI : it < s.heap.objs.size := by obtain ⟨_, q, _⟩ := hit; exact Heap.lt_size q
    refine wpAny_pyNext_enum_itemD D he ⟨hit, pt⟩ hlt hne (by simp [hne, hea]) fun x' h' tk hP ho st' hT hsz hk => ?_
    have ex : x' = u := by
      have h1 : its.toArray[i]? = some x' := hP
      have h2 : its.toArray[i]? = some u := by simpa using hu
      rw [h2] at h1
      exact (Option.some.inj h1).symm
    subst ex
    refine ⟨_, rfl, wpAny_letOwnedTupleGo_enum (s := { s with heap := h', toks := tk + 1 }) ho fun h2 he2 sb => ?_⟩
    have hT2 : h2.get? s.heap.objs.size = some { cls := .type "tuple", data := .seq #[.int i tk, x'] } := (sb.2 _ (Nat.ne_of_gt lE)).trans hT
    have mk : ObjOk X.prog X.w (upd H s.heap.objs.size (.tup [.int (i : Nat), x])) h2 s.heap.objs.size (.tup [.int (i : Nat), x]) := ⟨Nat.le_trans (by decide : 2 ≤ 63) (by decide), [.int i tk, x'], .cons ⟨_, rfl⟩ (.cons ru .nil), ⟨_, hT2, rfl, _, rfl⟩⟩
    have keep : ∀ b ob, b ∉ [e, it] → s.heap.get? b = some ob → h2.get? b = some ob := fun b ob hb q => by
      have n1 : b ≠ e := fun z => hb (by simp [z])
      have n2 : b ≠ it := fun z => hb (by simp [z])
      exact (sb.2 b n1).trans (hk b ob n1 n2 q)
    have I2 := I.turnedNew (t' := tk + 1) (ch := [e, it]) keep hf (Nat.le_refl _) mk
    have e1 : ((i + 1 : Nat) : Int) = (i : Int) + 1 := by omega
    refine ⟨.ref s.heap.objs.size, _, I2, rfl, ⟨_, x, rfl, I.hok.fresh (Nat.le_refl _), rfl, fun ys hy => by rw [I.tuple_inj hy hq]; exact hx⟩, ⟨⟨x', by rw [e1]; exact he2⟩, st'.1.at (fun o q => (sb.2 it hne.symm).trans q), hne, hea, hai⟩, fun b hb => ?_⟩
    have hb' : b < s.heap.objs.size := by
      rcases two hb with rfl | rfl
      · exact lE
      · exact lI
    rw [upd_ne (Nat.ne_of_lt hb')]; exact (hf b hb).1
  · intro X hP hw hK hc i pins s σ H E I hf st hg
    subst hP hw hK
    obtain ⟨⟨old, he⟩, hit, hne, hea, hai⟩ := st
    obtain ⟨xs, hq, hx⟩ := hg
    obtain ⟨its, rv, p, _⟩ := I.tuple hq
    obtain ⟨f0, f1, f2, f3, f4, f5⟩ := hf it (by simp)
    have ei : i = its.toArray.size := by rw [← hx, List.size_toArray, rv.length]
    have pt : s.heap.IsTuple a its.toArray := p
    have D := Draws.tuple (prog := X.prog) (w := X.w) (A := X.A.in1) (I.ok.hd hc) it a hai its.toArray
    refine wpAny_pyNext_enum_endD D he ⟨ei ▸ hit, pt⟩ fun h' eb => ⟨rfl, ?_⟩
    exact I.turned (t' := s.toks) (fun b o hb q => eb b o hb q) f0 f1 f3 f4 f5
  · obtain ⟨⟨_, he⟩, _⟩ := st
    exact wpAny_pyIter_enum he h
section
variable {X : Cx} {W : WX} {e : Expr} {es elts : List Expr} {fl : Rho → ReL} {pos p tpos : Pos} {n m kk : Nat} {x : Str}
theorem boot_en : bootBuiltins "enumerate" = some (.type "enumerate") := by decide +kernel
def iEnumT (K : PySem.W.Frag) (ta : TA) : TI := fun σ H R => ta σ H fun vs H1 => ∃ a xs, vs = [.ref a] ∧ SqT K H1 a xs ∧ R (ItET K a) H1
theorem pi_enumT {ta : TA} (hg : Gl X "enumerate") (hm : X.mg "enumerate" = none) (ha : PA X [e] ta) (hs : starEach [e] X.env = [(false, eval e X.env)] := by rfl) : PI X (.Tuple elts kk tpos) (.Call (.Name "enumerate" p) [e] [] pos) (iEnumT X.K ta) := by
  refine ⟨fun pins s σ H R I h => ?_⟩
  refine Call_ (ld_blt I hg hm boot_en (PyProof.Rows.callWith_type1 (thn (ha.run pos pins s σ H _ I h) fun us s1 ⟨vs, H1, I1, r1, q1⟩ => ?_) hs rfl))
  obtain ⟨a, xs, ex, hq, q⟩ := q1
  subst ex
  obtain rfl := Vals.ref1 r1
  obtain ⟨its, rv, pt, _⟩ := I1.tuple hq
  have pt : s1.heap.IsTuple a its.toArray := pt
  have la : a < s1.heap.objs.size := by obtain ⟨_, z, _⟩ := pt; exact Heap.lt_size z
  refine enum_one (begins_tuple a its.toArray) pt fun h' he hit hk => wpAny_pyIter_enum he ?_
  have I2 : Inv X pins σ H1 { s1 with heap := h' } := I1.kept (t' := s1.toks) hk
  have n1 : s1.heap.objs.size + 1 ≠ a := Nat.ne_of_gt (Nat.lt_succ_of_lt la)
  refine ⟨s1.heap.objs.size + 1, [s1.heap.objs.size + 1, s1.heap.objs.size], _, _, H1, rfl, I2, turn_enT a _ _, ⟨⟨.none, he⟩, ⟨_, hit, rfl, rfl⟩, Nat.succ_ne_self _, n1, Nat.ne_of_lt la⟩, fun b hb => ?_, q⟩
  have hle : s1.heap.objs.size ≤ b := by
    rcases (show b = s1.heap.objs.size + 1 ∨ b = s1.heap.objs.size from by simpa using hb) with z | z
    · rw [z]; exact Nat.le_succ _
    · rw [z]; exact Nat.le_refl _
  exact I1.fpOk hle (I1.hok.fresh hle)
theorem pi_or2 {tg iter : Expr} {w1 w2 : TI} (h1 : PI X tg iter w1) (h2 : PI X tg iter w2) : PI X tg iter (fun σ H R => w1 σ H R ∨ w2 σ H R) := pi_or h1 h2
theorem walkD_enumT {K : PySem.W.Frag} {Hf : Hp} {a : Addr} {xs : List V} {ds : List PyData} (h : SqT K Hf a xs) (r : RpAll K Hf xs ds) : WalkD K Hf (ItET K a) (enumD 0 ds) := by
  refine ⟨fun i H hi e => ?_, fun H e => ⟨xs, e.sqT h, by rw [enumD_len, r.len]⟩, fun i H y H' hi e q => ?_⟩
  · rw [enumD_len] at hi
    obtain ⟨v, h1, _⟩ := r.get (List.getElem?_eq_getElem hi)
    exact ⟨xs, v, e.sqT h, h1⟩
  · obtain ⟨T, x, rfl, hT, rfl, fx⟩ := q
    obtain ⟨d, hd, rd⟩ := r.get' (fx xs (e.sqT h))
    refine ⟨_, enumD_get 0 ds i d hd, .inr ⟨T, _, _, rfl, hT, rfl, .cons ?_ (.cons rd .nil), rfl⟩⟩
    rw [Nat.zero_add]
    exact .int _
/-- for k, x in enumerate(xs): a list or a tuple -/
def iEnumA (f : Rho → Re) (ρ : Rho) : ReI := match f ρ with
  | .ok o ρ1 => match itemsOf (fz o) with
    | some ds => .ok (enumD 0 ds) ρ1
    | none => .stk
  | .exc e ρ1 => .exc e ρ1
  | .stk => .stk
theorem ei_enumA {f : Rho → Re} (hg : Gl X "enumerate") (hm : X.mg "enumerate" = none) (h : EvE X W e f) (hs : starEach [e] X.env = [(false, eval e X.env)] := by rfl) : EvI X W (.Tuple elts kk tpos) (.Call (.Name "enumerate" p) [e] [] pos) (iEnumA f) :=
  pi_w (pi_or2 (pi_enum hg hm (pa_cons h pa_nil (by rw [hs]; rfl)) hs) (pi_enumT hg hm (pa_cons h pa_nil (by rw [hs]; rfl)) hs)) fun σ H R ⟨Hf, T, ρ, F, s, h⟩ => by
    unfold iEnumA at h
    cases q : f ρ with
    | exc e ρ1 => rw [q] at h; exact .inl ⟨Hf, T, ρ, F, s, by rw [q]; exact h⟩
    | stk => rw [q] at h; exact .inl ⟨Hf, T, ρ, F, s, by rw [q]; exact h⟩
    | ok o ρ1 =>
      simp only [q] at h
      cases q2 : fz o with
      | list ds =>
        simp only [q2, itemsOf] at h
        refine .inl ⟨Hf, T, ρ, F, s, ?_⟩
        rw [q]
        intro v H1 Hf1 sm s1
        obtain ⟨Hf2, sm2, s2⟩ := s1.freeze
        rw [q2] at s2
        obtain ⟨a, xs, rfl, t1, r1⟩ := s2.rp.sqL
        exact ⟨a, xs, rfl, s2.sub.sqL t1, h _ H1 Hf2 (sm.trans sm2) s2.drop (walkD_enum t1 r1)⟩
      | tuple ds =>
        simp only [q2, itemsOf] at h
        refine .inr ⟨Hf, T, ρ, F, s, ?_⟩
        rw [q]
        intro v H1 Hf1 sm s1
        obtain ⟨Hf2, sm2, s2⟩ := s1.freeze
        rw [q2] at s2
        obtain ⟨a, xs, rfl, t1, r1⟩ := s2.rp.sqT
        exact ⟨a, xs, rfl, s2.sub.sqT t1, h _ H1 Hf2 (sm.trans sm2) s2.drop (walkD_enumT t1 r1)⟩
      | _ => simp only [q2, itemsOf] at h
end
end Ev
namespace Ev
open PySem PySem.Spec L2
open PyProof.Rows hiding St

section
variable {X : Cx} {W : WX} {e a b c : Expr} {es elts : List Expr} {f fa fb fk : Rho → Re} {fl : Rho → ReL} {pos p tpos : Pos} {n m kk : Nat} {x : Str}
/-! ### range of three -/
def stepD (lo c : Int) (n : Nat) : List PyData := (List.range n).map fun i => .int (lo + (i : Nat) * c)
theorem walkD_step {K : PySem.W.Frag} {Hf : Hp} {lo c : Int} {n : Nat} : WalkD K Hf (Itc lo c n) (stepD lo c n) := by
  have hl : (stepD lo c n).length = n := by simp [stepD]
  refine ⟨fun i H hi _ => by rw [hl] at hi; exact hi, fun H _ => by rw [hl]; exact Nat.le_refl _, fun i H y H' hi _ q => ?_⟩
  obtain ⟨e1, e2⟩ := q
  rw [hl] at hi
  refine ⟨.int (lo + (i : Nat) * c), by simp [stepD, hi], .inl ⟨e1, ?_⟩⟩
  rw [e2]
  exact .int _
def stepOk (i j c : Int) : Bool := decide (c ≠ 0) && decide (c.natAbs < 1073741824) && Builtin.Range.small i j c && decide (0 ≤ Builtin.Range.rangeSize i j c)
def iRange3 (fl : Rho → ReL) (ρ : Rho) : ReI := match fl ρ with
  | .ok [.sh (.int i), .sh (.int j), .sh (.int c)] ρ1 => if stepOk i j c = true then .ok (stepD i c (Builtin.Range.rangeSize i j c).toNat) ρ1 else .stk
  | .exc e ρ1 => .exc e ρ1
  | _ => .stk
theorem ei_range3 {tg : Expr} (hg : Gl X "range") (hm : X.mg "range" = none) (h : EvL X W [a, b, c] fl)
    (hs : starEach [a, b, c] X.env = (false, eval a X.env) :: starEach [b, c] X.env := by rfl) (hpl : (backTo pos (starEach [b, c] X.env)).any (·.1) = false := by rfl) : EvI X W tg (.Call (.Name "range" p) [a, b, c] [] pos) (iRange3 fl) :=
  pi_w (pi_range3 hg hm h hs hpl) fun σ H R ⟨Hf, T, ρ, F, s, h⟩ => by
    refine ⟨Hf, T, ρ, F, s, ?_⟩
    unfold iRange3 at h
    cases q : fl ρ with
    | exc e ρ1 => rw [q] at h; exact h
    | stk => rw [q] at h; exact h
    | ok os ρ1 =>
      rw [q] at h
      intro vs H1 Hf1 l sm s1
      match os, h with
      | [.sh (.int i), .sh (.int j), .sh (.int c)], h =>
        match vs, l with
        | [u, v, w], _ =>
          by_cases hr : stepOk i j c = true
          · simp only [if_pos hr] at h
            have e1 := rp_int (SI.rp (T := (v, .sh (.int j)) :: (w, .sh (.int c)) :: T) s1)
            have s2 : SI X.K Hf1 ((v, .sh (.int j)) :: (w, .sh (.int c)) :: T) ρ1 F σ H1 := SI.drop s1
            have e2 := rp_int s2.rp
            have e3 := rp_int s2.drop.rp
            subst e1 e2 e3
            unfold stepOk at hr
            simp only [Bool.and_eq_true, decide_eq_true_eq] at hr
            obtain ⟨⟨⟨h1, h2⟩, h3⟩, h4⟩ := hr
            exact ⟨i, j, c, _, rfl, ⟨h1, h2, h3, (Int.toNat_of_nonneg h4).symm⟩, h _ H1 Hf1 sm s2.drop.drop walkD_step⟩
          · simp only [if_neg hr] at h

/-! ### x += e of ints -/
def sAug (i : Nat) (g : Int → Int → Int) (f : Rho → Re) (ρ : Rho) : Out := match ρ[i]? with
  | some (some (.sh (.int _))) => bindS (f ρ) fun o ρ1 => match ρ1[i]?, o with
    | some (some (.sh (.int a))), .sh (.int b) => .next (ρ1.set i (some (.sh (.int (g a b)))))
    | _, _ => .stk
  | _ => .stk
theorem es_aug {i : Nat} {op : Operator} {g : Int → Int → Int} {pos' : Pos} (G : Good X W m) (hp : PIp X op (ipI g)) (hi : X.N[i]? = some x) (hx : Loc X.env.scope x) (he : EvE X W e f) (hf : X.fn x = true ∨ X.env.scope.names.lookup x = some .local := by first | exact .inl rfl | exact .inr rfl | assumption) :
    EvS X W (.AugAssign (.Name x pos') op e pos) (sAug i g f) := ps_w (ps_aug G.nd hi hx he hp hf) fun D σ H ⟨Hf, ρ, F, s, h⟩ => by
  unfold sAug at h
  split at h
  · rename_i a0 q0
    obtain ⟨v, hv, s0, _⟩ := s.take q0
    have ev := rp_int s0.rp
    subst ev
    refine ⟨_, hv, Hf, [], ρ, F, s, PostE.bindS h fun o ρ1 y H1 Hf1 sm1 s1 h1 => ?_⟩
    split at h1
    · rename_i a1 b1 q1
      obtain ⟨v1, hv1, s2, _⟩ := s1.take q1
      rw [hv] at hv1
      have e1 := rp_int s2.rp
      have e2 := rp_int s1.rp
      subst e1 e2
      have : a0 = a1 := by injection hv1 with z; injection z with z; injection z
      subst this
      exact ⟨_, _, rfl, rfl, h1 _ H1 Hf1 (Same.refl _) (SI.put' i (s1.drop.add (.int _)))⟩
    · exact h1.elim
  · exact h.elim
end
end Ev
namespace Ev
open PySem PySem.Spec L2
open PyProof.Rows hiding St

section
variable {K : PySem.W.Frag} {Hf H : Hp} {its : Its} {F : Bs} {p : Addr} {u0 u : HO} {T : Its} {ρ : Rho} {σ : St}
/-- a new object that the frame holds for now -/
theorem SX.hold (s : SX K Hf its F H) (hp : H p = Option.none) : SX K Hf its ((p, u) :: F) (upd H p u) := by
  obtain ⟨⟨bs, h, n, a⟩, e⟩ := s
  have ne : ∀ q ∈ bs ++ F, q.1 ≠ p := fun q hq => ne_of_none (a q hq).1 hp
  have pm : (bs ++ (p, u) :: F).Perm ((p, u) :: (bs ++ F)) := List.perm_middle
  refine ⟨⟨bs, h, ?_, fun q hq => ?_⟩, fun b x q => ?_⟩
  · refine nodup_perm pm.symm ?_
    show (p :: ((bs ++ F).map (·.1))).Nodup
    refine List.nodup_cons.mpr ⟨fun hm => ?_, n⟩
    obtain ⟨q, hq, e⟩ := List.mem_map.mp hm
    exact ne q hq e
  · rcases List.mem_cons.mp (pm.mem_iff.mp hq) with rfl | hq
    · exact ⟨upd_same, e.none hp⟩
    · rw [upd_ne (ne q hq)]; exact a q hq
  · have hb : b ≠ p := ne_of_none q (e.none hp)
    rw [upd_ne hb]; exact e b x q
theorem SX.heldAt (s : SX K Hf its ((p, u) :: F) H) : H p = some u := by
  obtain ⟨⟨bs, h, n, a⟩, e⟩ := s
  exact (a (p, u) (List.mem_append_right _ List.mem_cons_self)).1
/-- .. is taken back, with the items C in it -/
theorem SX.adopt {C : Its} {o : OV} (s : SX K Hf (C ++ its) ((p, u0) :: F) H) (mk : ∀ bs, OwnI K Hf C bs → Own K Hf (.ref p) o ((p, u) :: bs)) : SX K Hf ((.ref p, o) :: its) F (upd H p u) := by
  obtain ⟨⟨bs, h, n, a⟩, e⟩ := s
  obtain ⟨b1, b2, rfl, h1, h2⟩ := h.split
  have pm : ((b1 ++ b2) ++ (p, u0) :: F).Perm ((p, u0) :: (b1 ++ b2 ++ F)) := List.perm_middle
  have n' := nodup_perm pm n
  have n' : (p :: ((b1 ++ b2 ++ F).map (·.1))).Nodup := n'
  have hp := a (p, u0) (pm.mem_iff.mpr List.mem_cons_self)
  refine ⟨⟨((p, u) :: b1) ++ b2, .cons (mk b1 h1) h2, n', fun q hq => ?_⟩, fun b x q => ?_⟩
  · rcases List.mem_cons.mp hq with rfl | hq
    · exact ⟨upd_same, hp.2⟩
    · have ne : q.1 ≠ p := fun z => (List.nodup_cons.mp n').1 (List.mem_map.mpr ⟨q, hq, z⟩)
      rw [upd_ne ne]
      exact a q (pm.mem_iff.mpr (List.mem_cons_of_mem _ hq))
  · have ne : b ≠ p := fun z => by
      have := hp.2
      rw [← z, q] at this; cases this
    rw [upd_ne ne]; exact e b x q
end
/-! ### a dict written down -/
def evPs : List ((Rho → Re) × (Rho → Re)) → Rho → Option (List (OV × OV) × Rho)
  | [], ρ => some ([], ρ)
  | (fk, fv) :: r, ρ => match fk ρ with
    | .ok k ρ1 => match fv ρ1 with
      | .ok v ρ2 => match evPs r ρ2 with
        | some (ps, ρ3) => some ((k, v) :: ps, ρ3)
        | none => none
      | _ => none
    | _ => none
def flatP : List (V × V) → List (OV × OV) → Its
  | (x, y) :: vs, (k, o) :: ps => (x, k) :: (y, o) :: flatP vs ps
  | _, _ => []
section
variable {X : Cx} {W : WX} {e a b c : Expr} {fk fv : Rho → Re} {pos p : Pos} {n m : Nat}
abbrev trsP (X : Cx) (W : WX) (fps : List ((Rho → Re) × (Rho → Re))) : List (TE × TE) := fps.map fun q => (tE X W q.1, tE X W q.2)
theorem pairs_post {F : Bs} {σ : St} : ∀ (fps : List ((Rho → Re) × (Rho → Re))) {Hf : Hp} {T : Its} {ρ ρ' : Rho} {H : Hp} {ps : List (OV × OV)} {Q : List (V × V) → Hp → Prop}, SI X.K Hf T ρ F σ H → evPs fps ρ = some (ps, ρ') →
    (∀ vps H' Hf', vps.length = ps.length → Same Hf Hf' → SI X.K Hf' (flatP vps ps ++ T) ρ' F σ H' → Q vps H') → tPairs (trsP X W fps) σ H Q
  | [], Hf, T, ρ, ρ', H, ps, Q, s, h, q => by
    cases h
    exact q [] H Hf rfl (Same.refl _) s
  | (fk, fv) :: r, Hf, T, ρ, ρ', H, ps, Q, s, h, q => by
    unfold evPs at h
    cases q1 : fk ρ with
    | exc e ρ1 => rw [q1] at h; cases h
    | stk => rw [q1] at h; cases h
    | ok k ρ1 =>
      rw [q1] at h
      simp only at h
      cases q2 : fv ρ1 with
      | exc e ρ1 => rw [q2] at h; cases h
      | stk => rw [q2] at h; cases h
      | ok v ρ2 =>
        rw [q2] at h
        simp only at h
        cases q3 : evPs r ρ2 with
        | none => rw [q3] at h; cases h
        | some z =>
          obtain ⟨ps', ρ3⟩ := z
          rw [q3] at h
          cases h
          refine ⟨Hf, T, ρ, F, s, ?_⟩
          show PostE X W Hf T F σ (fk ρ) _
          rw [q1]
          intro x H1 Hf1 sm1 s1
          refine ⟨Hf1, (x, k) :: T, ρ1, F, s1, ?_⟩
          show PostE X W Hf1 ((x, k) :: T) F σ (fv ρ1) _
          rw [q2]
          intro y H2 Hf2 sm2 s2
          refine pairs_post r s2 q3 fun vps H3 Hf3 l sm3 s3 => q ((x, y) :: vps) H3 Hf3 (by simp [l]) ((sm1.trans sm2).trans sm3) (s3.perm ?_)
          show (flatP vps ps' ++ ((y, v) :: (x, k) :: T)).Perm ((x, k) :: (y, v) :: (flatP vps ps' ++ T))
          exact (List.perm_middle.trans (List.Perm.cons _ List.perm_middle)).trans (List.Perm.swap _ _ _)
/-- the keys, ints or texts -/
def keysP : List (OV × OV) → Option (List (Key × OV))
  | [] => some []
  | (k, o) :: ps => match asKey (fz k), keysP ps with
    | some q, some r => some ((q, o) :: r)
    | _, _ => none
def eDict (fps : List ((Rho → Re) × (Rho → Re))) (ρ : Rho) : Re := match evPs fps ρ with
  | some (ps, ρ1) => match keysP ps with
    | some kvs => if kvs.length ≤ 15 ∧ (kvs.map (·.1)).Nodup then .ok (.dk kvs) ρ1 else .stk
    | none => .stk
  | none => .stk
theorem mergeK_nodup : ∀ (more kvs : List (Key × V)), ((kvs ++ more).map (·.1)).Nodup → mergeK kvs more = kvs ++ more
  | [], kvs, _ => by simp [mergeK]
  | (k, v) :: more, kvs, n => by
    have e : putK kvs k v = kvs ++ [(k, v)] := by
      unfold putK
      rw [if_neg]
      intro h
      obtain ⟨q, hq, e⟩ := List.any_eq_true.mp h
      have e := of_decide_eq_true e
      rw [List.map_append, List.nodup_append] at n
      exact n.2.2 q.1 (List.mem_map.mpr ⟨q, hq, rfl⟩) k (by simp) e
    have := mergeK_nodup more (kvs ++ [(k, v)]) (by simpa using n)
    unfold mergeK at this ⊢
    rw [List.foldl_cons, e, this]
    simp
theorem flat_take {K : PySem.W.Frag} {Hf H : Hp} {F : Bs} : ∀ {vps : List (V × V)} {ps : List (OV × OV)} {kvs : List (Key × OV)} {T : Its}, vps.length = ps.length → keysP ps = some kvs → SX K Hf (flatP vps ps ++ T) F H →
    ∃ vs : List V, vs.length = kvs.length ∧ vps = ((kvs.map (·.1)).zip vs).map (fun kv => (kV kv.1, kv.2)) ∧ SX K Hf (vs.zip (kvs.map (·.2)) ++ T) F H
  | [], [], _, T, _, h, s => by cases h; exact ⟨[], rfl, rfl, s⟩
  | (x, y) :: vps, (k, o) :: ps, kvs, T, l, h, s => by
    unfold keysP at h
    cases q1 : asKey (fz k) with
    | none => simp [q1] at h
    | some q =>
      cases q2 : keysP ps with
      | none => simp [q1, q2] at h
      | some r =>
        simp only [q1, q2] at h
        cases h
        have s : SX K Hf ((x, k) :: (y, o) :: (flatP vps ps ++ T)) F H := s
        have rx : Rp K H x (fz k) := s.rdH
        rw [asKey_inv q1] at rx
        have ex := rp_key rx
        subst ex
        have s2 : SX K Hf (flatP vps ps ++ ((y, o) :: T)) F H := s.drop.perm List.perm_middle.symm
        obtain ⟨vs, h1, h2, h3⟩ := flat_take (by simpa using l) q2 s2
        refine ⟨y :: vs, by simp [h1], by rw [h2]; rfl, ?_⟩
        exact h3.perm List.perm_middle
/-- {k: e, ..} -/
theorem ev_dict {keys : List (Option Expr)} {values : List Expr} {fps : List ((Rho → Re) × (Rho → Re))} (h : PPs X pos keys values (trsP X W fps)) (hall : keys.all (·.isSome) = true) (hl : keys.length = values.length) (h0 : keys ≠ []) (h15 : keys.length ≤ 15) :
    EvE X W (.Dict keys values pos) (eDict fps) := pe_w (pe_disp h hall hl h0 h15) fun σ H Q ⟨Hf, T, ρ, F, s, hh⟩ p hp => by
  unfold eDict at hh
  cases q1 : evPs fps ρ with
  | none => rw [q1] at hh; exact hh.elim
  | some z =>
    obtain ⟨ps, ρ1⟩ := z
    simp only [q1] at hh
    cases q2 : keysP ps with
    | none => simp only [q2] at hh; exact hh.elim
    | some kvs =>
      simp only [q2] at hh
      by_cases hc : kvs.length ≤ 15 ∧ (kvs.map (·.1)).Nodup
      · rw [if_pos hc] at hh
        have s1 : SI X.K Hf T ρ ((p, .dK []) :: F) σ (upd H p (.dK [])) := by
          obtain ⟨its, hs, s2⟩ := s.ex
          exact ⟨its, hs, s2.hold hp⟩
        refine pairs_post fps s1 q1 fun vps H' Hf' l sm s2 => ?_
        obtain ⟨its, hs, s3⟩ := s2.ex
        rw [List.append_assoc] at s3
        obtain ⟨vs, h1, h2, h3⟩ := flat_take l q2 s3
        have hlen : (kvs.map (·.1)).length = vs.length := by rw [List.length_map, h1]
        refine ⟨h3.heldAt, (kvs.map (·.1)).zip vs, h2, by rw [List.length_zip, List.length_map, h1]; omega, ?_⟩
        have hz : ((kvs.map (·.1)).zip vs).map (·.1) = kvs.map (·.1) := (zip_fst _ _ hlen).1
        rw [mergeK_nodup _ [] (by rw [List.nil_append, hz]; exact hc.2), List.nil_append]
        refine hh _ _ Hf' sm ⟨its, hs, ?_⟩
        have ek : kvs = (kvs.map (·.1)).zip (kvs.map (·.2)) := by
          clear hh hc q2 h1 h2 h3 hlen hz
          induction kvs with
          | nil => rfl
          | cons q r ih => simp [← ih]
        have := SX.adopt (C := vs.zip (kvs.map (·.2))) (its := T ++ its) (o := .dk ((kvs.map (·.1)).zip (kvs.map (·.2)))) (u := .dK ((kvs.map (·.1)).zip vs)) h3 fun bs hbs => .dk hlen hc.2 (OwnI.lst (by rw [List.length_map, h1]) hbs)
        rw [← ek] at this
        exact this
      · rw [if_neg hc] at hh; exact hh.elim
end
end Ev
namespace Ev
open PySem PySem.Spec L2
open PyProof.Rows hiding St

/-! ### more reading of what is owned -/
def eDT (ρ : Rho) : Re := .ok (.dt []) ρ
def eDK (ρ : Rho) : Re := .ok (.dk []) ρ
def scal : PyData → Bool
  | .none => true | .bool _ => true | .int _ => true | .str _ => true | _ => false
section
variable {K : PySem.W.Frag}
theorem scal_any {H : Hp} {v : V} {d : PyData} (r : Rp K H v d) (h : scal d = true) : ∀ H', Rp K H' v d := by
  cases r with
  | non => exact fun _ => .non
  | bl b => exact fun _ => .bl b
  | int i => exact fun _ => .int i
  | str x => exact fun _ => .str x
  | lst _ _ => cases h
  | tup _ _ => cases h
  | tupK _ _ => cases h
  | dk _ _ => cases h
  | dt _ _ => cases h
def gSubD (d e : PyData) : Option PyData := match d, e with
  | .list ds, .int i => atI ds i
  | .tuple ds, .int i => atI ds i
  | .dict kvs, k => if okK kvs k = true then dLook kvs k else none
  | _, _ => none
def gSubP (d e : PyData) : Option PyData := match gSubD d e with
  | some c => if scal c = true then some c else none
  | none => none
theorem opp_sub : OpP K (rSub K) gSubP := by
  intro H x y d e c Q rx ry h q
  unfold gSubP at h
  cases q1 : gSubD d e with
  | none => rw [q1] at h; cases h
  | some c0 =>
    rw [q1] at h
    simp only at h
    by_cases hs : scal c0 = true
    case neg => rw [if_neg hs] at h; cases h
    rw [if_pos hs] at h
    cases h
    unfold gSubD at q1
    split at q1
    · obtain ⟨p1, xs, rfl, t1, r1⟩ := rx.sqL
      have e2 := rp_int ry
      subst e2
      obtain ⟨v, hv, rv⟩ := rpAll_at r1 q1
      exact .inl (.inl ⟨p1, xs, _, v, rfl, rfl, t1, hv, q v (scal_any rv hs)⟩)
    · obtain ⟨p1, xs, rfl, t1, r1⟩ := rx.sqT
      have e2 := rp_int ry
      subst e2
      obtain ⟨v, hv, rv⟩ := rpAll_at r1 q1
      exact .inl (.inr (.inl ⟨p1, xs, _, v, rfl, rfl, t1, hv, q v (scal_any rv hs)⟩))
    · rename_i kvs
      split at q1
      · rename_i ok
        obtain ⟨ad, o, rfl, hg, _, f⟩ := rp_dget rx ry ok
        obtain ⟨v, rfl, rv⟩ := f _ q1
        exact .inr ⟨ad, v, rfl, hg, q v (scal_any rv hs)⟩
      · cases q1
    · cases q1
end
section
variable {X : Cx} {W : WX} {e a b c : Expr} {es : List Expr} {f fa fb fk : Rho → Re} {fl : Rho → ReL} {pos apos cpos p : Pos} {n m k : Nat} {x : Str}
theorem ev_dT : EvE X W (.Dict [] [] pos) eDT := ev_dnewT
theorem ev_dK : EvE X W (.Dict [] [] pos) eDK := ev_dnewK
theorem ev_subL {i : Nat} (G : Good X W n) (ha : PE X a (tVar i)) (hb : EvE X W b fb) (hs : PlainIx b := by intro _ _; rfl) : EvE X W (.Subscript a b pos) (eBL gSubP i fb) :=
  pe_w (pe_ix (ixAll G) ha hb hs) fun σ H Q ⟨Hf, T, ρ, F, s, h⟩ => bl_post opp_sub s h
/-- one argument, read -/
def OpP1 (K : PySem.W.Frag) (r : List V → Hp → VK → Prop) (g : PyData → Option PyData) : Prop :=
  ∀ (H : Hp) (x : V) (d c : PyData) (Q : VK), Rp K H x d → g d = some c → (∀ v, (∀ H', Rp K H' v c) → Q v H) → r [x] H Q
def eB1 (g : PyData → Option PyData) (i : Nat) (ρ : Rho) : Re := match ρ[i]? with
  | some (some o) => ofP (g (fz o)) ρ
  | _ => .stk
theorem b1_post {r : List V → Hp → VK → Prop} {g : PyData → Option PyData} (ho : OpP1 X.K r g) {σ : St} {H : Hp} {Q : VK} {Hf : Hp} {T : Its} {ρ : Rho} {F : Bs} {i : Nat} (s : SI X.K Hf T ρ F σ H) (h : PostE X W Hf T F σ (eB1 g i ρ) Q) : tCons (tVar i) tNil σ H fun vs H1 => r vs H1 Q := by
  unfold eB1 at h
  cases q : ρ[i]? with
  | none => simp only [q] at h; exact h.elim
  | some z =>
    cases z with
    | none => simp only [q] at h; exact h.elim
    | some o =>
      simp only [q] at h
      obtain ⟨v, hv, s2, _⟩ := s.take q
      refine ⟨v, hv, ?_⟩
      have rx : Rp X.K H v (fz o) := s2.rdH
      unfold ofP at h
      cases q2 : g (fz o) with
      | none => simp only [q2] at h; exact h.elim
      | some c =>
        simp only [q2] at h
        exact ho H v _ c Q rx q2 fun w hw => h w H Hf (Same.refl _) (s.add (hw Hf))
def dLenP : PyData → Option PyData
  | .list ds => some (.int ds.length)
  | .tuple ds => some (.int ds.length)
  | _ => none
theorem opp_len {K : PySem.W.Frag} : OpP1 K (fun xs H Q => ∃ p ys, xs = [V.ref p] ∧ (SqL K H p ys ∨ SqT K H p ys) ∧ Q (.int ys.length) H) dLenP := by
  intro H x d c Q r h q
  cases d with
  | list ds =>
    cases h
    obtain ⟨p1, ys, rfl, t1, r1⟩ := r.sqL
    exact ⟨p1, ys, rfl, .inl t1, q _ fun _ => by rw [r1.len]; exact .int _⟩
  | tuple ds =>
    cases h
    obtain ⟨p1, ys, rfl, t1, r1⟩ := r.sqT
    exact ⟨p1, ys, rfl, .inr t1, q _ fun _ => by rw [r1.len]; exact .int _⟩
  | _ => cases h
/-- len(x), x the slot i -/
theorem ev_lenB {i : Nat} (hg : Gl X "len") (hm : X.mg "len" = none) (hx : PE X e (tVar i)) (hs : starEach [e] X.env = (false, eval e X.env) :: starEach [] X.env := by rfl) (hpl : (backTo pos (starEach [] X.env)).any (·.1) = false := by rfl) :
    EvE X W (.Call (.Name "len" p) [e] [] pos) (eB1 dLenP i) :=
  pe_w (pe_callB call_len_seq hg hm boot_len (pa_cons hx pa_nil hs) (by decide) (by decide) hs hpl) fun σ H Q ⟨Hf, T, ρ, F, s, h⟩ => b1_post opp_len s h
end
end Ev
namespace Ev
open PySem PySem.Spec L2
open PyProof.Rows hiding St

/-! ### dict([(k, v), ..]): keys that are ints or texts, each once -/
def pairsOf : List PyData → Option (List (Key × PyData))
  | [] => some []
  | .tuple [k, d] :: ds => match asKey k, pairsOf ds with
    | some q, some r => some ((q, d) :: r)
    | _, _ => none
  | _ => none
def dDict : PyData → Option OV
  | .list ds => match pairsOf ds with
    | some kvs => if (kvs.map (·.1)).Nodup ∧ kvs.length ≤ sizeLine then some (.dk (kvs.map fun q => (q.1, .sh q.2))) else none
    | none => none
  | _ => none
section
variable {K : PySem.W.Frag} {H : Hp}
theorem pairs_rp : ∀ {xs : List V} {ds : List PyData} {kvs : List (Key × PyData)}, RpAll K H xs ds → pairsOf ds = some kvs →
    ∃ (ps : List Addr) (vs : List (Key × V)), xs = ps.map V.ref ∧ Paired (fun p (kv : Key × V) => SqT K H p [kV kv.1, kv.2]) ps vs ∧ vs.map (·.1) = kvs.map (·.1) ∧ RpAll K H (vs.map (·.2)) (kvs.map (·.2))
  | [], [], kvs, .nil, h => by cases h; exact ⟨[], [], rfl, .nil, rfl, .nil⟩
  | x :: xs, d :: ds, kvs, .cons r t, h => by
    unfold pairsOf at h
    split at h
    · rename_i e; cases e
    · rename_i k d' ds' e
      cases e
      cases q1 : asKey k with
      | none => simp [q1] at h
      | some q =>
        cases q2 : pairsOf ds with
        | none => simp [q1, q2] at h
        | some r' =>
          simp only [q1, q2] at h
          cases h
          obtain ⟨ps, vs, e1, e2, e3, e4⟩ := pairs_rp t q2
          obtain ⟨a, ys, rfl, ta, ra⟩ := r.sqT
          cases ra with
          | cons r1 ra =>
            cases ra with
            | cons r2 ra =>
              cases ra
              rw [asKey_inv q1] at r1
              have ek := rp_key r1
              subst ek
              exact ⟨a :: ps, (q, _) :: vs, by rw [e1]; rfl, .cons ta e2, by simp [e3], .cons r2 e4⟩
    · cases h
theorem kv_zip {α β γ : Type} (l : List (α × β)) (f : β → γ) : l.map (fun q => (q.1, f q.2)) = (l.map (·.1)).zip ((l.map (·.2)).map f) := by
  induction l with
  | nil => rfl
  | cons q r ih => simp only [List.map_cons, List.zip_cons_cons, ih]
theorem opn_dict : OpN K (fun xs H Q => ∃ (a : Addr) (ps : List Addr) (kvs : List (Key × V)), xs = [V.ref a] ∧ SqL K H a (ps.map V.ref) ∧ Paired (fun p (kv : Key × V) => SqT K H p [kV kv.1, kv.2]) ps kvs ∧
    ∀ p, H p = none → Q (.ref p) (upd H p (.dK (mergeK [] kvs)))) (g1 dDict) := opN1 fun Hf its F H v d c Q s r h q => by
  cases d with
  | list ds =>
    unfold dDict at h
    cases q1 : pairsOf ds with
    | none => simp [q1] at h
    | some kvs =>
      simp only [q1] at h
      by_cases hc : (kvs.map (·.1)).Nodup ∧ kvs.length ≤ sizeLine
      · rw [if_pos hc] at h
        cases h
        obtain ⟨a, xs, rfl, t1, r1⟩ := r.sqL
        obtain ⟨ps, vs, rfl, e2, e3, e4⟩ := pairs_rp r1 q1
        refine ⟨a, ps, vs, rfl, s.sub.sqL t1, Paired.mapP e2 fun _ _ z => s.sub.sqT z, fun p hp => ?_⟩
        rw [mergeK_nodup vs [] (by rw [List.nil_append, e3]; exact hc.1), List.nil_append]
        refine q _ _ Hf (Same.refl _) ?_
        rw [kv_zip kvs OV.sh, ← e3]
        have lv : (vs.map (·.1)).length = (vs.map (·.2)).length := by simp
        have ez : vs = (vs.map (·.1)).zip (vs.map (·.2)) := by
          clear e2 e3 e4 lv
          induction vs with
          | nil => rfl
          | cons q r ih => rw [List.map_cons, List.map_cons, List.zip_cons_cons, ← ih]
        rw [show HO.dK vs = HO.dK ((vs.map (·.1)).zip (vs.map (·.2))) from congrArg HO.dK ez]
        refine SX.newOwn (C := []) (its := its) s hp fun bs hbs => ?_
        cases hbs
        exact .dk lv (by rw [e3]; exact hc.1) (.of_rp e4)
      · rw [if_neg hc] at h; cases h
  | _ => cases h
theorem b_dict {X : Cx} (hc : X.calm = true) (hm : X.mg "dict" = none) : BTy X "dict" "dict" (g1 dDict) := ⟨⟨_, call_dictP hc, opn_dict⟩, hm, by decide +kernel⟩
end
end Ev
namespace Ev
open PySem PySem.Spec L2
open PyProof.Rows hiding St

section
variable {X : Cx} {W : WX} {e a b c : Expr} {es : List Expr} {f fa fb fk : Rho → Re} {fl : Rho → ReL} {pos apos cpos p : Pos} {n m k : Nat} {x : Str}
/-- isinstance(x, T), x the slot i -/
def gIsiP (T : String) (d : PyData) : Option PyData := if isDict d = true then none else some (.bool (isiB T d))
theorem ev_isiB {i : Nat} {T : String} {tn : Expr} (hg : Gl X "isinstance") (hm : X.mg "isinstance" = none) (hT : T = "int" ∨ T = "bool" ∨ T = "str" ∨ T = "list" ∨ T = "tuple") (ht : PE X tn (tC (.ty T))) (ha : PE X a (tVar i))
    (he : starEach [a, tn] X.env = (false, eval a X.env) :: starEach [tn] X.env := by rfl) (hpl : (backTo pos (starEach [tn] X.env)).any (·.1) = false := by rfl) (he2 : starEach [tn] X.env = (false, eval tn X.env) :: starEach [] X.env := by rfl) : EvE X W (.Call (.Name "isinstance" p) [a, tn] [] pos) (eB1 (gIsiP T) i) := by
  refine pe_w (pe_callB call_isi hg hm (by decide +kernel) (pa_cons ha (pa_cons ht pa_nil he2) he) (by decide) (by decide) he hpl) fun σ H Q ⟨Hf, T', ρ, F, s, h⟩ => ?_
  unfold eB1 at h
  cases q : ρ[i]? with
  | none => simp only [q] at h; exact h.elim
  | some z =>
    cases z with
    | none => simp only [q] at h; exact h.elim
    | some o =>
      simp only [q] at h
      obtain ⟨v, hv, s2, _⟩ := s.take q
      have r : Rp X.K H v (fz o) := s2.rdH
      unfold gIsiP at h
      by_cases hd : isDict (fz o) = true
      · rw [if_pos hd] at h; exact h.elim
      · rw [if_neg hd] at h
        have hd' : isDict (fz o) = false := by simpa using hd
        exact ⟨v, hv, v, .ty T, _, _, isiB T (fz o), rfl, .ty T, rp_ty r hd', kit_isi hT _ hd', h _ H Hf (Same.refl _) (s.add (.bl _))⟩
end
end Ev
namespace Ev
open PySem PySem.Spec L2
open PyProof.Rows hiding St

/-! ### plain laws: comprehensions of one name -/
section
variable {v : Nat} {fi : Rho → ReI} {fn : Rho → Re} {te : Rho → Re} {tt : Rho → ReB} {ρ : Rho} {n : Nat} {ds : List PyData}
theorem set_no (h : ρ[v]? = some none) : ρ.set v none = ρ := by
  apply List.ext_getElem?
  intro j
  by_cases e : v = j
  · subst e
    have hl := (List.getElem?_eq_some_iff.mp h).1
    rw [List.getElem?_set_self hl, h]
  · rw [List.getElem?_set_ne e]
theorem relay_no (h : ρ[v]? = some none) : relay [v] ρ ρ = ρ := by
  unfold relay
  rw [h]
  rfl
theorem set_set_no (h : ρ[v]? = some none) (o : Option OV) : fgt [v] (ρ.set v o) = ρ := by
  show (ρ.set v o).set v none = ρ
  rw [List.set_set, set_no h]
/-- [e for x in xs] -/
theorem lc_each (f : PyData → OV) (hno : ρ[v]? = some none) (hi : fi ρ = .ok ds ρ) (hn : ds.length ≤ sizeLine) (hf : ∀ d ∈ ds, te (ρ.set v (some (.sh d))) = .ok (f d) (ρ.set v (some (.sh d)))) :
    eLc [v] fi (hName v) tYesR te ρ = .ok (.lst (ds.map f)) ρ := by
  have c := compL_map (vs := [v]) (h := hName v) (te := te) (ρ := ρ) f ds 0 (by omega) fun d hd => ⟨_, _, rfl, hf d hd, set_set_no hno _⟩
  have e : fgt [v] ρ = ρ := set_no hno
  rw [eLc_ok hi (by rw [e]; exact c), relay_no hno]
/-- [e for x in xs if t] -/
theorem lc_filter (p : PyData → Bool) (f : PyData → OV) (hno : ρ[v]? = some none) (hi : fi ρ = .ok ds ρ) (hn : ds.length ≤ sizeLine) (ht : ∀ d ∈ ds, tt (ρ.set v (some (.sh d))) = .ok (p d) (ρ.set v (some (.sh d))))
    (hf : ∀ d ∈ ds, p d = true → te (ρ.set v (some (.sh d))) = .ok (f d) (ρ.set v (some (.sh d)))) : eLc [v] fi (hName v) tt te ρ = .ok (.lst ((ds.filter p).map f)) ρ := by
  have c := compL_filter (vs := [v]) (h := hName v) (tt := tt) (te := te) (ρ := ρ) p f ds 0 (by omega) fun d hd => ⟨_, _, rfl, ht d hd, fun _ => set_set_no hno _, fun hp => ⟨_, hf d hd hp, set_set_no hno _⟩⟩
  have e : fgt [v] ρ = ρ := set_no hno
  rw [eLc_ok hi (by rw [e]; exact c), relay_no hno]
/-- [e for k in range(n)] -/
theorem lc_range (f : Nat → OV) (hno : ρ[v]? = some none) (hq : fn ρ = .ok (.sh (.int (n : Nat))) ρ) (hn : n ≤ 1000000) (hf : ∀ k : Nat, k < n → te (ρ.set v (some (.sh (.int (k : Nat))))) = .ok (f k) (ρ.set v (some (.sh (.int (k : Nat)))))) :
    eLc [v] (iRange1 fn) (hName v) tYesR te ρ = .ok (.lst ((List.range n).map f)) ρ := by
  have hi := iRange1_ok hq (rngOk_of (by omega) (by omega))
  rw [Int.toNat_natCast] at hi
  have := lc_each (te := te) (fun d => match d with | .int i => f i.toNat | _ => .lst []) hno hi (by rw [upto_len, sizeLine_eq]; omega) (fun d hd => by
    obtain ⟨k, hk, rfl⟩ := upto_mem.mp hd
    rw [Int.zero_add]
    have := hf k hk
    simp only [Int.toNat_natCast]
    exact this)
  rw [this]
  congr 2
  unfold upto
  rw [List.map_map]
  refine List.map_congr_left fun k _ => ?_
  simp
end
/-! isinstance, constructor by constructor -/
theorem gi_int_none : gIsi "int" [.sh .none] = some (.sh (.bool false)) := by simp only [gIsi, fz_sh, isDict, isiB, Bool.false_eq_true, if_false] <;> rfl
theorem gi_int_bool {b : Bool} : gIsi "int" [.sh (.bool b)] = some (.sh (.bool true)) := by simp only [gIsi, fz_sh, isDict, isiB, Bool.false_eq_true, if_false] <;> rfl
theorem gi_int_int {i : Int} : gIsi "int" [.sh (.int i)] = some (.sh (.bool true)) := by simp only [gIsi, fz_sh, isDict, isiB, Bool.false_eq_true, if_false] <;> rfl
theorem gi_int_str {x : Str} : gIsi "int" [.sh (.str x)] = some (.sh (.bool false)) := by simp only [gIsi, fz_sh, isDict, isiB, Bool.false_eq_true, if_false] <;> rfl
theorem gi_int_list {xs : List PyData} : gIsi "int" [.sh (.list xs)] = some (.sh (.bool false)) := by simp only [gIsi, fz_sh, isDict, isiB, Bool.false_eq_true, if_false] <;> rfl
theorem gi_int_tuple {xs : List PyData} : gIsi "int" [.sh (.tuple xs)] = some (.sh (.bool false)) := by simp only [gIsi, fz_sh, isDict, isiB, Bool.false_eq_true, if_false] <;> rfl
theorem gi_bool_none : gIsi "bool" [.sh .none] = some (.sh (.bool false)) := by simp only [gIsi, fz_sh, isDict, isiB, Bool.false_eq_true, if_false] <;> rfl
theorem gi_bool_bool {b : Bool} : gIsi "bool" [.sh (.bool b)] = some (.sh (.bool true)) := by simp only [gIsi, fz_sh, isDict, isiB, Bool.false_eq_true, if_false] <;> rfl
theorem gi_bool_int {i : Int} : gIsi "bool" [.sh (.int i)] = some (.sh (.bool false)) := by simp only [gIsi, fz_sh, isDict, isiB, Bool.false_eq_true, if_false] <;> rfl
theorem gi_bool_str {x : Str} : gIsi "bool" [.sh (.str x)] = some (.sh (.bool false)) := by simp only [gIsi, fz_sh, isDict, isiB, Bool.false_eq_true, if_false] <;> rfl
theorem gi_bool_list {xs : List PyData} : gIsi "bool" [.sh (.list xs)] = some (.sh (.bool false)) := by simp only [gIsi, fz_sh, isDict, isiB, Bool.false_eq_true, if_false] <;> rfl
theorem gi_bool_tuple {xs : List PyData} : gIsi "bool" [.sh (.tuple xs)] = some (.sh (.bool false)) := by simp only [gIsi, fz_sh, isDict, isiB, Bool.false_eq_true, if_false] <;> rfl
theorem gi_str_none : gIsi "str" [.sh .none] = some (.sh (.bool false)) := by simp only [gIsi, fz_sh, isDict, isiB, Bool.false_eq_true, if_false] <;> rfl
theorem gi_str_bool {b : Bool} : gIsi "str" [.sh (.bool b)] = some (.sh (.bool false)) := by simp only [gIsi, fz_sh, isDict, isiB, Bool.false_eq_true, if_false] <;> rfl
theorem gi_str_int {i : Int} : gIsi "str" [.sh (.int i)] = some (.sh (.bool false)) := by simp only [gIsi, fz_sh, isDict, isiB, Bool.false_eq_true, if_false] <;> rfl
theorem gi_str_str {x : Str} : gIsi "str" [.sh (.str x)] = some (.sh (.bool true)) := by simp only [gIsi, fz_sh, isDict, isiB, Bool.false_eq_true, if_false] <;> rfl
theorem gi_str_list {xs : List PyData} : gIsi "str" [.sh (.list xs)] = some (.sh (.bool false)) := by simp only [gIsi, fz_sh, isDict, isiB, Bool.false_eq_true, if_false] <;> rfl
theorem gi_str_tuple {xs : List PyData} : gIsi "str" [.sh (.tuple xs)] = some (.sh (.bool false)) := by simp only [gIsi, fz_sh, isDict, isiB, Bool.false_eq_true, if_false] <;> rfl
theorem gi_list_none : gIsi "list" [.sh .none] = some (.sh (.bool false)) := by simp only [gIsi, fz_sh, isDict, isiB, Bool.false_eq_true, if_false] <;> rfl
theorem gi_list_bool {b : Bool} : gIsi "list" [.sh (.bool b)] = some (.sh (.bool false)) := by simp only [gIsi, fz_sh, isDict, isiB, Bool.false_eq_true, if_false] <;> rfl
theorem gi_list_int {i : Int} : gIsi "list" [.sh (.int i)] = some (.sh (.bool false)) := by simp only [gIsi, fz_sh, isDict, isiB, Bool.false_eq_true, if_false] <;> rfl
theorem gi_list_str {x : Str} : gIsi "list" [.sh (.str x)] = some (.sh (.bool false)) := by simp only [gIsi, fz_sh, isDict, isiB, Bool.false_eq_true, if_false] <;> rfl
theorem gi_list_list {xs : List PyData} : gIsi "list" [.sh (.list xs)] = some (.sh (.bool true)) := by simp only [gIsi, fz_sh, isDict, isiB, Bool.false_eq_true, if_false] <;> rfl
theorem gi_list_tuple {xs : List PyData} : gIsi "list" [.sh (.tuple xs)] = some (.sh (.bool false)) := by simp only [gIsi, fz_sh, isDict, isiB, Bool.false_eq_true, if_false] <;> rfl
theorem gi_tuple_none : gIsi "tuple" [.sh .none] = some (.sh (.bool false)) := by simp only [gIsi, fz_sh, isDict, isiB, Bool.false_eq_true, if_false] <;> rfl
theorem gi_tuple_bool {b : Bool} : gIsi "tuple" [.sh (.bool b)] = some (.sh (.bool false)) := by simp only [gIsi, fz_sh, isDict, isiB, Bool.false_eq_true, if_false] <;> rfl
theorem gi_tuple_int {i : Int} : gIsi "tuple" [.sh (.int i)] = some (.sh (.bool false)) := by simp only [gIsi, fz_sh, isDict, isiB, Bool.false_eq_true, if_false] <;> rfl
theorem gi_tuple_str {x : Str} : gIsi "tuple" [.sh (.str x)] = some (.sh (.bool false)) := by simp only [gIsi, fz_sh, isDict, isiB, Bool.false_eq_true, if_false] <;> rfl
theorem gi_tuple_list {xs : List PyData} : gIsi "tuple" [.sh (.list xs)] = some (.sh (.bool false)) := by simp only [gIsi, fz_sh, isDict, isiB, Bool.false_eq_true, if_false] <;> rfl
theorem gi_tuple_tuple {xs : List PyData} : gIsi "tuple" [.sh (.tuple xs)] = some (.sh (.bool true)) := by simp only [gIsi, fz_sh, isDict, isiB, Bool.false_eq_true, if_false] <;> rfl
theorem nl0 : ((0 : Nat) : Int) = 0 := rfl
theorem nl1 : ((1 : Nat) : Int) = 1 := rfl
theorem nl2 : ((2 : Nat) : Int) = 2 := rfl
theorem nl3 : ((3 : Nat) : Int) = 3 := rfl
theorem nl4 : ((4 : Nat) : Int) = 4 := rfl
theorem nl5 : ((5 : Nat) : Int) = 5 := rfl
theorem nl6 : ((6 : Nat) : Int) = 6 := rfl
theorem nl7 : ((7 : Nat) : Int) = 7 := rfl
theorem nl8 : ((8 : Nat) : Int) = 8 := rfl
theorem nl9 : ((9 : Nat) : Int) = 9 := rfl
theorem nl10 : ((10 : Nat) : Int) = 10 := rfl
theorem nl11 : ((11 : Nat) : Int) = 11 := rfl
theorem nl12 : ((12 : Nat) : Int) = 12 := rfl
theorem nl13 : ((13 : Nat) : Int) = 13 := rfl
theorem nl14 : ((14 : Nat) : Int) = 14 := rfl
theorem nl15 : ((15 : Nat) : Int) = 15 := rfl
theorem nl16 : ((16 : Nat) : Int) = 16 := rfl
theorem nl17 : ((17 : Nat) : Int) = 17 := rfl
theorem nl18 : ((18 : Nat) : Int) = 18 := rfl
theorem nl19 : ((19 : Nat) : Int) = 19 := rfl
theorem nl20 : ((20 : Nat) : Int) = 20 := rfl
/-- a loop over range(n) that adds f k to what is gathered -/
theorem forL_acc {fs : List Nat} {h : OV → Rho → Option Rho} {body : Rho → Out} (st : List PyData → Rho) (f : Nat → List PyData) (B : Nat) (base : List PyData) : ∀ n : Nat,
    (∀ k, k < n → ∀ acc : List PyData, acc.length ≤ B → ∃ ρ1 ρ2, h (.sh (.int (k : Nat))) (st acc) = some ρ1 ∧ (body ρ1 = .next ρ2 ∨ body ρ1 = .cnt ρ2) ∧ fgt fs ρ2 = st (acc ++ f k)) →
    (∀ k, k < n → (base ++ (List.range k).flatMap f).length ≤ B) → forL fs h body (upto 0 n) (st base) = .next (st (base ++ (List.range n).flatMap f)) := by
  intro n hs hb
  obtain ⟨ρ', h1, h2⟩ := forL_run (fs := fs) (h := h) (body := body) (fun i ρ => ρ = st (base ++ (List.range i).flatMap f)) (upto 0 n) 0 (st base) (by simp) fun k d ρ hk hp => by
    obtain ⟨hk1, rfl⟩ := upto_get hk
    subst hp
    obtain ⟨ρ1, ρ2, e1, e2, e3⟩ := hs k hk1 _ (hb k hk1)
    have e0 : 0 + k = k := by omega
    rw [e0, Int.zero_add]
    refine ⟨ρ1, ρ2, e1, e2, ?_⟩
    rw [e3, List.range_succ, List.flatMap_append, List.append_assoc]
    simp
  rw [h1, h2, upto_len, Nat.zero_add]
end Ev
namespace Ev
open PySem PySem.Spec L2
open PyProof.Rows hiding St

/-! ### x[k] op= e of ints -/
def rGetL : R2 := fun o i H Q => ∃ p xs k j v, o = .ref p ∧ i = .int k ∧ H p = some (.lst xs) ∧ 0 ≤ k ∧ k.toNat = j ∧ xs[j]? = some v ∧ Q v H
theorem get_list {X : Cx} : PGet X rGetL := by
  intro pins s σ H o i ov iv Q I ro ri h
  obtain ⟨p, xs, k, j, z, rfl, rfl, hp, h0, hj, hv, q⟩ := h
  cases ro
  obtain ⟨t, rfl⟩ := ri
  obtain ⟨its, r, pl, hz⟩ := I.list (SqL.of (K := X.K) hp)
  obtain ⟨w, ew, rw'⟩ := r.get hv
  have hn := line63
  have hl := r.length
  have hlt : j < xs.length := (List.getElem?_eq_some_iff.mp hv).1
  refine wpAny_getItem_list pl.isList h0 (by omega) (x := w) (by rw [hj]; simpa using ew) ⟨z, H, I, rw', q⟩
abbrev rGetA : R2 := fun o i H Q => rGetL o i H Q ∨ ∃ a v, o = .ref a ∧ DGet H a i (some v) ∧ Q v H
theorem get_any {X : Cx} (hu : X.A.units + 1 < cLine) : PGet X rGetA := fun pins s σ H o i ov iv Q I ro ri h => by
  rcases h with h | ⟨a, v, e, g, q⟩
  · exact get_list pins s σ H o i ov iv Q I ro ri h
  · subst e
    cases ro
    exact d_getItem hu I g ri fun w' s' I' rw' => ⟨v, H, I', rw', q⟩
def oInt : Option OV → Option Int
  | some (.sh (.int i)) => some i
  | _ => none
theorem oInt_iff {x : Option OV} {i : Int} (h : oInt x = some i) : x = some (.sh (.int i)) := by
  unfold oInt at h
  split at h
  · cases h; rfl
  · cases h
/-- what lies at a key of what is owned, an int -/
def intAt (c : OV) (k : PyData) : Option Int := match c with
  | .lst os => match k with
    | .int j => if 0 ≤ j then oInt os[j.toNat]? else none
    | _ => none
  | .dk kvs => match asDK k with
    | some (.inl q) => oInt ((kvs.find? fun p => decide (p.1 = q)).map (·.2))
    | _ => none
  | .dt kvs => match asDK k with
    | some (.inr q) => if fineK (.inr q) = true then oInt ((kvs.find? fun p => decide (p.1 = q)).map (·.2)) else none
    | _ => none
  | .sh _ => none
theorem OwnL.get {K : PySem.W.Frag} {Hf : Hp} : ∀ {vs : List V} {os : List OV} {bs : Bs} {j : Nat} {d : PyData}, OwnL K Hf vs os bs → os[j]? = some (.sh d) → ∃ v, vs[j]? = some v ∧ Rp K Hf v d
  | _, _, _, _, _, .nil, e => by simp at e
  | _, _, _, 0, _, .cons h r, e => by
    simp at e; subst e
    cases h with
    | sh h => exact ⟨_, rfl, h⟩
  | _, _, _, j + 1, d, .cons h r, e => by
    obtain ⟨v, h1, h2⟩ := OwnL.get (j := j) (d := d) r (by simpa using e)
    exact ⟨v, by simpa using h1, h2⟩
theorem SX.intAt {K : PySem.W.Frag} {Hf H : Hp} {its : Its} {F : Bs} {v y : V} {c : OV} {k : PyData} {i : Int} {Q : VK} (s : SX K Hf ((v, c) :: its) F H) (r : Rp K H y k) (h : Ev.intAt c k = some i) (q : Q (.int i) H) : rGetA v y H Q := by
  obtain ⟨⟨bs, hI, n, al⟩, e⟩ := s
  cases hI with
  | @cons _ _ _ b1 b2 hv hits =>
  unfold Ev.intAt at h
  cases c with
  | sh d => cases h
  | lst os =>
    cases hv with
    | @lst a vs _ b0 hos =>
    cases k with
    | int j =>
      simp only at h
      split at h
      · rename_i h0
        have hi := oInt_iff h
        obtain ⟨w, hw, rw'⟩ := hos.get hi
        have ey := rp_int r
        subst ey
        have ew := rp_int rw'
        subst ew
        exact .inl ⟨a, vs, j, _, _, rfl, rfl, (al _ (List.mem_append_left _ (List.mem_append_left _ List.mem_cons_self))).1, h0, rfl, hw, q⟩
      · cases h
    | _ => cases h
  | dk kvs =>
    cases hv with
    | @dk a ks vs os b0 l nd hos =>
    simp only at h
    split at h
    · rename_i key hk
      have hi := oInt_iff h
      obtain ⟨j, hj1, hj2, hf⟩ := find_at key nd hi
      obtain ⟨w, hw, rw'⟩ := hos.get hj2
      have ek := asDK_inl hk
      subst ek
      have ey := rp_key r
      subst ey
      have ew := rp_int rw'
      subst ew
      refine .inr ⟨a, _, rfl, .inl ⟨_, key, .inl (al _ (List.mem_append_left _ (List.mem_append_left _ List.mem_cons_self))).1, rfl, ?_⟩, q⟩
      have := (hf vs (.int i) (by rw [hos.len])).2 (by rw [l, hos.len])
      unfold valV
      rw [this, hw]
    · cases h
  | dt kvs =>
    cases hv with
    | @dt a ks vs os b0 l nd hos =>
    simp only at h
    split at h
    · rename_i key hk
      split at h
      · rename_i hfine
        have hi := oInt_iff h
        obtain ⟨j, hj1, hj2, hf⟩ := find_at key nd hi
        obtain ⟨w, hw, rw'⟩ := hos.get hj2
        have ek := asDK_inr hk
        subst ek
        obtain ⟨b, rfl, hb⟩ := rp_keyT r hfine
        have ew := rp_int rw'
        subst ew
        refine .inr ⟨a, _, rfl, .inr ⟨_, key, b, .inl (al _ (List.mem_append_left _ (List.mem_append_left _ List.mem_cons_self))).1, rfl, hb, ?_⟩, q⟩
        have := (hf vs (.int i) (by rw [hos.len])).2 (by rw [l, hos.len])
        unfold valV
        rw [this, hw]
      · cases h
    · cases h
/-- x[k] op= e; the key is reckoned, then e -/
def ofAug (i : Nat) (g : Int → Int → Int) (k : OV) (b : Int) (ρ : Rho) : Out := match ρ[i]? with
  | some (some c) => match intAt c (fz k) with
    | some a => match setO c (fz k) (.sh (.int (g a b))) with
      | some c' => .next (ρ.set i (some c'))
      | none => .stk
    | none => .stk
  | _ => .stk
def sAugIx (i : Nat) (g : Int → Int → Int) (fk : Rho → Re) (b : Int) (ρ : Rho) : Out := if isOv ρ i = true then bindS (fk ρ) fun k ρ1 => ofAug i g k b ρ1 else .stk
section
variable {X : Cx} {W : WX} {e a b c : Expr} {f fk : Rho → Re} {p p2 pos tpos : Pos} {m : Nat}
theorem es_augIx {i : Nat} {op : Operator} {g : Int → Int → Int} {z : Int} {jj} {pp : Pos} (G : Good X W m) (hp : PIp X op (ipI g)) (hx : PE X a (tVar i)) (hk : EvE X W b fk)
    (ha : ∀ ov iv new, augStore b ov iv new = (do holding [new, ov, iv] (setItem ov iv new); release [new, ov, iv] []; pure .next) := by intros; rfl) :
    EvS X W (.AugAssign (.Subscript a b tpos) op (.Constant (.int z) jj pp) pos) (sAugIx i g fk z) :=
  ps_w (ps_augS hx hk (get_any (by have := G.hu; omega)) pe_int hp (set_any (by have := G.hu; omega)) ha) fun D σ H ⟨Hf, ρ, F, s, hh⟩ => by
    unfold sAugIx at hh
    by_cases hov : isOv ρ i = true
    case neg => rw [if_neg hov] at hh; exact hh.elim
    rw [if_pos hov] at hh
    obtain ⟨o0, q0⟩ := isOv_iff hov
    obtain ⟨v, hv, _, _⟩ := s.take q0
    refine ⟨v, hv, Hf, [], ρ, F, s, PostE.bindS hh fun k ρ1 y H1 Hf1 sm1 s1 h1 => ?_⟩
    unfold ofAug at h1
    split at h1
    · rename_i cc q1
      split at h1
      · rename_i a0 q2
        split at h1
        · rename_i c' q3
          obtain ⟨v', hv', s2, _⟩ := s1.take q1
          rw [hv] at hv'
          obtain rfl : v = v' := by injection hv' with z; injection z
          have r : Rp X.K H1 y (fz k) := s1.rdH
          obtain ⟨its, hs, s3⟩ := s2.ex
          have s4 : SX X.K Hf1 ((v, cc) :: its) F H1 := SX.drop (s3.perm (List.Perm.swap _ _ _))
          refine s4.intAt r q2 ⟨a0, z, rfl, rfl, ?_⟩
          have s5 : SX X.K Hf1 ((v, cc) :: (.int (g a0 z), .sh (.int (g a0 z))) :: its) F H1 := (SX.add s4 (.int (g a0 z))).perm (List.Perm.swap _ _ _)
          refine SX.setO (its := its) s5 r q3 fun H' s6 => ?_
          refine h1 σ H' Hf1 (Same.refl _) ?_
          have := SI.put' (T := []) i ⟨its, hs, s6⟩
          rw [set_same hv] at this
          simpa using this
        · exact h1.elim
      · exact h1.elim
    · exact h1.elim
/-! ### x[k][l] = e -/
def ofSt2 (i : Nat) (c : OV) (k l o : OV) (c1 : OV) (ρ : Rho) : Out := match setO c1 (fz l) o with
  | some c2 => if isNo ρ i = true then .next (ρ.set i (some (putO c (fz k) c2))) else .stk
  | none => .stk
def sSetIx2 (i : Nat) (f fk fl : Rho → Re) (ρ : Rho) : Out := bindS (f ρ) fun o ρ1 => if isOv ρ1 i = true then bindS (fk ρ1) fun k ρ2 => (match ρ2[i]? with
    | some (some c) => match subO c (fz k) with
      | some c1 => (match fl (ρ2.set i none) with
        | .ok l ρ3 => ofSt2 i c k l o c1 ρ3
        | _ => .stk)
      | none => .stk
    | _ => .stk) else .stk
theorem es_setIx2 {i : Nat} {b2 : Expr} {fl : Rho → Re} (G : Good X W m) (hx : PE X a (tVar i)) (hk : EvE X W b fk) (hl : EvE X W b2 fl) (he : EvE X W e f) (hn : PlainIx b)
    (ha : ∀ v, assign (.Subscript (.Subscript a b p) b2 p2) X.env v = (do
      let ov ← holding [v] (eval (.Subscript a b p) X.env)
      let iv ← holding [v, ov] (eval b2 X.env)
      standAt p2
      holding [v, ov, iv] (setItem ov iv v)
      release [v, ov, iv] []) := by intro _; rfl)
    (hs : swapsWithSole [.Subscript (.Subscript a b p) b2 p2] e pos.line X.env = pure false := by rfl) (hw : swappedStores [.Subscript (.Subscript a b p) b2 p2] e X.env = pure none := by rfl)
    (h1 : (assignEach [.Subscript (.Subscript a b p) b2 p2] X.env).map (·.2) = [assign (.Subscript (.Subscript a b p) b2 p2) X.env] := by rfl) : EvS X W (.Assign [.Subscript (.Subscript a b p) b2 p2] e pos) (sSetIx2 i f fk fl) :=
  ps_w (ps_asg he (pg_sub (pe_ix (ixAll G) hx hk hn) hl (set_any (by have := G.hu; omega)) ha) hs hw h1) fun D σ H ⟨Hf, ρ, F, s, hh⟩ => by
    refine ⟨Hf, [], ρ, F, s, PostE.bindS hh fun o ρ1 w H1 Hf1 sm1 s1 h1 => ?_⟩
    by_cases hov : isOv ρ1 i = true
    case neg => rw [if_neg hov] at h1; exact h1.elim
    rw [if_pos hov] at h1
    obtain ⟨o0, q0⟩ := isOv_iff hov
    obtain ⟨v, hv, _, _⟩ := s1.take q0
    refine ⟨v, hv, Hf1, [(w, o)], ρ1, F, s1, PostE.bindS h1 fun k ρ2 y H2 Hf2 sm2 s2 h2 => ?_⟩
    split at h2
    · rename_i c q1
      split at h2
      · rename_i c1 q2
        obtain ⟨v', hv', s3, _⟩ := s2.take q1
        rw [hv] at hv'
        obtain rfl : v = v' := by injection hv' with z; injection z
        have r : Rp X.K H2 y (fz k) := s2.rdH
        obtain ⟨its, hs, s4⟩ := s3.ex
        have s5 : SX X.K Hf2 ((v, c) :: (w, o) :: its) F H2 := SX.drop (s4.perm (List.Perm.swap _ _ _))
        obtain ⟨u, F1, rd, s6, back⟩ := SX.focus s5 r q2
        have s7 : SX X.K Hf2 ((w, o) :: (u, c1) :: its) (F1 ++ F) H2 := s6.perm (List.Perm.swap _ _ _)
        refine rd _ ⟨Hf2, [(w, o), (u, c1)], ρ2.set i none, F1 ++ F, ⟨its, hs, s7⟩, ?_⟩
        cases q3 : fl (ρ2.set i none) with
        | exc e ρ3 => rw [q3] at h2; exact h2.elim
        | stk => rw [q3] at h2; exact h2.elim
        | ok l ρ3 =>
          rw [q3] at h2
          intro t H3 Hf3 sm3 s8
          unfold ofSt2 at h2
          simp only at h2
          cases q4 : setO c1 (fz l) o with
          | none => simp only [q4] at h2; exact h2.elim
          | some c2 =>
            simp only [q4] at h2
            by_cases hno : isNo ρ3 i = true
            · rw [if_pos hno] at h2
              have hno := isNo_iff hno
              have hlt : i < ρ3.length := (List.getElem?_eq_some_iff.mp hno).1
              have rl : Rp X.K H3 t (fz l) := s8.rdH
              obtain ⟨its2, hs2, s9⟩ := s8.ex
              have s10 : SX X.K Hf3 ((u, c1) :: (w, o) :: its2) (F1 ++ F) H3 := (SX.drop (its := (w, o) :: (u, c1) :: its2) s9).perm (List.Perm.swap _ _ _)
              refine SX.setO (its := its2) s10 rl q4 fun H' s11 => ?_
              have s12 := back Hf3 H' its2 c2 sm3 s11
              refine h2 σ H' Hf3 (sm3) ?_
              have := SI.put (T := []) (o := putO c (fz k) c2) (v := v) (i := i) (ρ := ρ3) ⟨its2, hs2, s12⟩ hlt
              rw [set_same hv] at this
              exact this
            · rw [if_neg hno] at h2; exact h2.elim
      · exact h2.elim
    · exact h2.elim
end
end Ev
namespace Ev
open PySem PySem.Spec L2
open PyProof.Rows hiding St
/-- a statement that is not followed (a refusal) -/
def sStk (_ : Rho) : Out := .stk
theorem es_stk {X : Cx} {W : WX} {st : Stmt} : EvS X W st sStk := ⟨fun _ _ _ _ _ _ ⟨_, _, _, _, h⟩ => h.elim⟩
end Ev
namespace Ev
open PySem PySem.Spec L2
open PyProof.Rows hiding St

/-! ### xs.index(x) of a list -/
def gIdx (a b : OV) : Option OV := match fz a with
  | .list ds => if SeqAt.shaped (.list ds) = true ∧ SeqAt.shaped (fz b) = true then (ds.findIdx? fun z => PyData.eqv z (fz b)).map fun j => .sh (.int (j : Nat)) else none
  | _ => none
def eIdx (fa : Rho → Re) (fl : Rho → ReL) (ρ : Rho) : Re := bindE (fa ρ) fun x ρ1 => match fz x with
  | .list _ => bindL (fl ρ1) fun os ρ2 => (match os with
    | [y] => ofO (gIdx x y) ρ2
    | _ => .stk)
  | _ => .stk
section
variable {X : Cx} {W : WX} {a b : Expr} {fl : Rho → ReL} {fa fb : Rho → Re} {ap cp : Pos} {m : Nat}
theorem findIdx_at {ds : List PyData} {d : PyData} {j : Nat} (h : (ds.findIdx? fun z => PyData.eqv z d) = some j) : ∃ z, ds[j]? = some z ∧ PyData.eqv z d = true ∧ ∀ (m : Nat) (z' : PyData), m < j → ds[m]? = some z' → PyData.eqv z' d = false := by
  rw [List.findIdx?_eq_some_iff_getElem] at h
  obtain ⟨hl, h1, h2⟩ := h
  refine ⟨ds[j], List.getElem?_eq_getElem hl, h1, fun m z' hm hz => ?_⟩
  have := h2 m hm
  obtain ⟨hl2, rfl⟩ := List.getElem?_eq_some_iff.mp hz
  simpa using this
theorem ev_index (G : Good X W m) (hp : PE X (.Call (.Attribute a "index" ap) [b] [] cp) (tBM X.K "list" (rIndexD X.K) (tE X W fa) (tL X W fl))) : EvE X W (.Call (.Attribute a "index" ap) [b] [] cp) (eIdx fa fl) := pe_w hp fun σ H Q ⟨Hf, T, ρ, F, s, h⟩ => by
  unfold eIdx at h
  refine ⟨Hf, T, ρ, F, s, PostE.bind h fun x ρ1 v H1 Hf1 sm1 s1 h1 => ?_⟩
  cases hx : fz x with
  | list ds =>
    rw [hx] at h1
    simp only at h1
    have r1 := s1.rdH
    rw [hx] at r1
    obtain ⟨p, xs, rfl, hq, _⟩ := r1.sqL
    refine ⟨.inl ⟨rfl, xs, hq⟩, Hf1, (.ref p, x) :: T, ρ1, F, s1, PostL.bind h1 fun os ρ2 vs H2 Hf2 l sm2 s2 h2 => ?_⟩
    split at h2
    · rename_i y
      match vs, l with
      | [w], _ =>
        have s3 : SI X.K Hf2 ((w, y) :: (.ref p, x) :: T) ρ2 F σ H2 := s2
        cases q : gIdx x y with
        | none => rw [q] at h2; exact h2.elim
        | some c =>
          rw [q] at h2
          unfold gIdx at q
          rw [hx] at q
          simp only at q
          split at q
          · rename_i hs
            obtain ⟨j, hj, rfl⟩ := Option.map_eq_some_iff.mp q
            obtain ⟨z, e1, e2, e3⟩ := findIdx_at hj
            obtain ⟨Hf3, sm3, s4⟩ := s3.freeze
            have s5 : SI X.K Hf3 ((.ref p, x) :: (w, .sh (fz y)) :: T) ρ2 F σ H2 := s4.perm (List.Perm.swap _ _ _)
            obtain ⟨Hf4, sm4, s6⟩ := s5.freeze
            have rx := s6.rdH
            have ry := (SI.perm s6 (List.Perm.swap _ _ _)).rdH
            simp only [fz] at rx ry
            rw [hx] at rx
            have cl : ∀ {d : PyData}, SeqAt.shaped d = true → d.canLay0 = true := fun {d} h => by
              unfold SeqAt.shaped at h
              rw [Bool.and_eq_true] at h
              exact h.1
            refine ⟨p, w, fz y, ds, j, z, rfl, rfl, rx.dp (cl hs.1), ry.dp (cl hs.2), hs.1, hs.2, e1, e2, e3, ?_⟩
            exact h2 (.int (j : Nat)) H2 Hf4 (sm3.trans sm4) ((s6.drop.drop).add (.int _))
          · cases q
    · exact h2.elim
  | _ => rw [hx] at h1; exact h1.elim
end
end Ev
namespace Ev
open PySem PySem.Spec L2
open PyProof.Rows hiding St

/-! ### list(zip(xs, ys)) of two lists -/
abbrev LstAt (h : Heap) (S : Addr) (acc : Array Value) (c : Nat) : Prop := h.get? S = some { cls := .type "list", dict := none, data := .seq acc c, slots := #[] }
/-- the zip at its place i: its last tuple is out -/
structure ZSt (h : Heap) (z TI TO i1 i2 l1 l2 lo i : Nat) : Prop where
  zp : (IsZip h z TI TO .none ∧ ∃ a b, IsPair h TO a b) ∨ ∃ T f oT, IsZipHeld h z TI TO T f ∧ h.get? T = some oT ∧ lo ≤ T
  ti : IsPair h TI (.ref i1) (.ref i2)
  a : h.IsListIter i1 l1 i
  b : h.IsListIter i2 l2 i
theorem ZSt.but {h h' : Heap} {z TI TO i1 i2 l1 l2 lo i S : Nat} (x : ZSt h z TI TO i1 i2 l1 l2 lo i) (hS : S < lo) (ne : S ∉ [z, TI, TO, i1, i2]) (k : ∀ b o, b ≠ S → h.get? b = some o → h'.get? b = some o) : ZSt h' z TI TO i1 i2 l1 l2 lo i := by
  simp only [List.mem_cons, List.not_mem_nil, or_false, not_or] at ne
  obtain ⟨n1, n2, n3, n4, n5⟩ := ne
  refine ⟨?_, k _ _ (Ne.symm n2) x.ti, x.a.at fun o e => k _ _ (Ne.symm n4) e, x.b.at fun o e => k _ _ (Ne.symm n5) e⟩
  rcases x.zp with ⟨q, a, b, r⟩ | ⟨T, f, oT, q, r, hl⟩
  · exact .inl ⟨k _ _ (Ne.symm n1) q, a, b, k _ _ (Ne.symm n3) r⟩
  · exact .inr ⟨T, f, oT, k _ _ (Ne.symm n1) q, k _ _ (Nat.ne_of_gt (Nat.lt_of_lt_of_le hS hl)) r, hl⟩
/-- pairs laid one behind the other -/
inductive Laid (H : Hp) : List Addr → List (V × V) → Hp → Prop
  | nil : Laid H [] [] H
  | snoc {Ts : List Addr} {ps : List (V × V)} {H1 : Hp} {T : Addr} {x y : V} : Laid H Ts ps H1 → H1 T = none → Laid H (Ts ++ [T]) (ps ++ [(x, y)]) (upd H1 T (.tup [x, y]))
theorem Laid.len {H H1 : Hp} {Ts : List Addr} {ps : List (V × V)} (l : Laid H Ts ps H1) : Ts.length = ps.length := by
  induction l with
  | nil => rfl
  | snoc _ _ ih => simp [ih]
section
variable {X : Cx} {pins : List (Addr × Obj)} {σ : St}
/-- an untracked object of ours is tracked -/
theorem _root_.L2.Inv.track {H : Hp} {s : Shared} {S : Addr} {ob : HO} (I : Inv X pins σ H s) (fp : FpOk X pins H S) (new : ObjOk X.prog X.w (upd H S ob) s.heap S ob) : Inv X pins σ (upd H S ob) s := by
  have hn := fp.1
  refine I.step (g' := s.gens) (d' := s.drawn) (t' := s.toks) (h' := s.heap) (ch := [S]) (fun b hb => ?_) (fun b o _ _ _ e _ => e) (fun b o _ _ _ e _ => ⟨o.slots, e⟩) (fun b o hb _ n => by rw [upd_ne (by simpa using hb)]; exact n) (fun b o _ e => ⟨o, e⟩)
    (fun b xs e => by rw [upd_ne (ne_of_none e hn)]; exact e) (fun b o u e => by rw [upd_ne (ne_of_none e hn)]; exact e) (fun b ps e => ⟨#[], by rw [upd_ne (ne_of_none e hn), e]; simp⟩) (fun _ h => h) (fun b u e => ?_) I.bare
  · have q : b = S := by simpa using hb
    subst q
    exact ⟨fp.2.2.2.1, fp.2.1, fp.2.2.2.2.1, fp.2.2.2.2.2⟩
  · by_cases hb : b = S
    · subst hb
      rw [upd_same] at e
      cases e
      exact new
    · rw [upd_ne hb] at e
      exact (I.hok b u e).stay (fun _ _ _ q => q) (fun c q => by rw [upd_ne (ne_of_none q hn)]; exact q) fun c xs q => by rw [upd_ne (ne_of_none q hn)]; exact q
theorem zl_loop {A : Around} {R : Result → Shared → Prop} {S z TI TO i1 i2 l1 l2 lo : Addr} {xs ys : List V} {res : Value} {H0 : Hp} (hh : A.handled = none) (D : ZipApart z TI TO i1 i2 l1 l2)
    (lt : S < lo ∧ z < lo ∧ TI < lo ∧ TO < lo ∧ i1 < lo ∧ i2 < lo) (ne : S ∉ [z, TI, TO, i1, i2]) (hn : xs.length ≤ sizeLine)
    (hR : ∀ s' H' Ts acc c, Inv X pins σ H' s' → FpOk X pins H' S → LstAt s'.heap S acc c → acc.toList = Ts.map Value.ref → Laid H0 Ts (xs.zip ys) H' → R (.ok (.ret res)) s') :
    ∀ (k i : Nat) (s : Shared) (H : Hp) (acc : Array Value) (c : Nat) (Ts : List Addr), (xs.zip ys).length - i = k → i ≤ (xs.zip ys).length → lo ≤ s.heap.objs.size → Inv X pins σ H s → SqL X.K H l1 xs → SqL X.K H l2 ys →
      (∀ b ∈ [S, z, TI, TO, i1, i2], FpOk X pins H b) → ZSt s.heap z TI TO i1 i2 l1 l2 lo i → LstAt s.heap S acc c → acc.toList = Ts.map Value.ref → Laid H0 Ts ((xs.zip ys).take i) H →
      codeAny (model X.prog X.w) A (.builtin "list.extend.loop" ⟨[.ref S, .ref z, res], []⟩) R s := by
  obtain ⟨ltS, ltz, ltTI, ltTO, lt1, lt2⟩ := lt
  have ne' := ne
  simp only [List.mem_cons, List.not_mem_nil, or_false, not_or] at ne'
  obtain ⟨n1, n2, n3, n4, n5⟩ := ne'
  have sub4 : ∀ b ∈ [z, TO, i1, i2], b ∈ [S, z, TI, TO, i1, i2] := fun b hb => by
    simp only [List.mem_cons, List.not_mem_nil, or_false] at hb ⊢
    rcases hb with q | q | q | q <;> simp [q]
  intro k
  induction k with
  | zero =>
    intro i s H acc c Ts hk hi hlo I q1 q2 fp st hS hacc hL
    have hin : i = (xs.zip ys).length := by omega
    subst hin
    rw [List.take_length] at hL
    obtain ⟨its, rv, p, _⟩ := I.list q1
    obtain ⟨its2, rv2, p2, _⟩ := I.list q2
    have he : its.toArray[(xs.zip ys).length]? = none ∨ its2.toArray[(xs.zip ys).length]? = none := by
      have e1 := rv.length
      have e2 := rv2.length
      rw [List.length_zip]
      rcases Nat.le_total xs.length ys.length with q | q
      · left; simp; omega
      · right; simp; omega
    refine codeAny_builtin F.entry_extend_loop ?_
    rw [Around.under_plainId F.plain_extend_loop _]
    show wpAny _ A.in1 (pyNext (.ref z) >>= _) _ _ _
    have fin : ∀ h' : Heap, (∀ b o, b ≠ z → b ≠ TO → b ≠ i1 → b ≠ i2 → s.heap.get? b = some o → h'.get? b = some o) → R (.ok (.ret res)) { s with heap := h' } := fun h' hk' =>
      hR _ H Ts acc c (I.turnedL (t' := s.toks) (ch := [z, TO, i1, i2]) (fun b o hb q => hk' b o (fun q' => hb (by simp [q'])) (fun q' => hb (by simp [q'])) (fun q' => hb (by simp [q'])) (fun q' => hb (by simp [q'])) q) fun b hb => fp b (sub4 b hb)) (fp S (by simp)) (hk' _ _ n1 n3 n4 n5 hS) hacc hL
    rcases st.zp with ⟨hz, a, b, hTO⟩ | ⟨T, f, oT, hz, hT, hl⟩
    · exact wpAny_bind (wpAny_pyNext_zip_end (A := A.in1) hh D hz st.ti hTO st.a st.b p.isList p2.isList he fun h' hk' => wpAny_pure (fin h' hk'))
    · exact wpAny_bind (wpAny_pyNext_zip_end_held (A := A.in1) hh D hz hT st.ti st.a st.b p.isList p2.isList he fun h' hk' => wpAny_pure (fin h' fun b o c1 _ c3 c4 => hk' b o c1 c3 c4))
  | succ k ih =>
    intro i s H acc c Ts hk hi hlo I q1 q2 fp st hS hacc hL
    have hlt : i < (xs.zip ys).length := by omega
    have hl2 := hlt
    rw [List.length_zip] at hl2
    obtain ⟨its, rv, p, _⟩ := I.list q1
    obtain ⟨its2, rv2, p2, _⟩ := I.list q2
    have hx : xs[i]? = some xs[i] := List.getElem?_eq_getElem (by omega)
    have hy : ys[i]? = some ys[i] := List.getElem?_eq_getElem (by omega)
    obtain ⟨u, hu, ru⟩ := rv.get hx
    obtain ⟨u2, hu2, ru2⟩ := rv2.get hy
    have hsz : acc.size = i := by
      have := congrArg List.length hacc
      rw [Array.length_toList, List.length_map, hL.len, List.length_take] at this
      omega
    refine codeAny_builtin F.entry_extend_loop ?_
    rw [Around.under_plainId F.plain_extend_loop _]
    show wpAny _ A.in1 (pyNext (.ref z) >>= _) _ _ _
    have go : ∀ h' : Heap, (∀ b o, b ≠ z → b ≠ TO → b ≠ i1 → b ≠ i2 → s.heap.get? b = some o → h'.get? b = some o) → ZSt h' z TI TO i1 i2 l1 l2 lo (i + 1) → IsPair h' s.heap.objs.size u u2 → h'.objs.size = s.heap.objs.size + 1 →
        wpAny (model X.prog X.w) A.in1 (updateSeq S (·.push (.ref s.heap.objs.size)) >>= fun _ => again (.builtin "list.extend.loop" ⟨[.ref S, .ref z, res], []⟩)) (fun fin s' => match fin with | .done f => R (.ok f) s' | .again c' => c'.quiet = true ∧ codeAny (model X.prog X.w) A c' R s') (fun e s' => R (.error e) s') { s with heap := h' } := fun h' hk' st' hT' hz' => by
      have hS' : LstAt h' S acc c := hk' _ _ n1 n3 n4 n5 hS
      have new : ObjOk X.prog X.w (upd H s.heap.objs.size (.tup [xs[i], ys[i]])) h' s.heap.objs.size (.tup [xs[i], ys[i]]) := ⟨by show 2 ≤ sizeLine; decide, [u, u2], .cons ru (.cons ru2 .nil), ⟨_, hT', rfl, _, rfl⟩⟩
      have fpne : ∀ b ∈ [S, z, TI, TO, i1, i2], b ≠ s.heap.objs.size := fun b hb => by
        simp only [List.mem_cons, List.not_mem_nil, or_false] at hb
        have l0 : ∀ a : Addr, a < lo → a ≠ s.heap.objs.size := fun a h => Nat.ne_of_lt (Nat.lt_of_lt_of_le h hlo)
        rcases hb with q | q | q | q | q | q <;> (rw [q]; exact l0 _ (by assumption))
      have I1 : Inv X pins σ (upd H s.heap.objs.size (.tup [xs[i], ys[i]])) { s with heap := h' } :=
        I.turnedNew (t' := s.toks) (ch := [z, TO, i1, i2]) (fun b o hb q => hk' b o (fun q' => hb (by simp [q'])) (fun q' => hb (by simp [q'])) (fun q' => hb (by simp [q'])) (fun q' => hb (by simp [q'])) q) (fun b hb => fp b (sub4 b hb)) (Nat.le_refl _) new
      have fp1 : ∀ b ∈ [S, z, TI, TO, i1, i2], FpOk X pins (upd H s.heap.objs.size (.tup [xs[i], ys[i]])) b := fun b hb => ⟨by rw [upd_ne (fpne b hb)]; exact (fp b hb).1, (fp b hb).2⟩
      have up : ∀ b o, b ≠ S → h'.get? b = some o → (h'.update S (Obj.mapSeq (·.push (Value.ref s.heap.objs.size)))).get? b = some o := fun b o hb e => (Heap.get?_update_other _ _ (Ne.symm hb)).trans e
      refine wpAny_bind (wpAny_updateSeq hS' rfl (wpAny_pure ⟨plainId_quiet F.plain_extend_loop _, ih (i + 1) _ (upd H s.heap.objs.size (.tup [xs[i], ys[i]])) (acc.push (.ref s.heap.objs.size)) _ (Ts ++ [s.heap.objs.size]) (by omega) hlt ?_ ?_ ?_ ?_ fp1 (st'.but ltS ne up) (Heap.get?_update_self _ hS' rfl) ?_ ?_⟩) (by rw [hsz]; omega) (by show (acc.push _).size ≤ sizeLine + 1; rw [Array.size_push, hsz]; omega))
      · show lo ≤ (h'.update S _).objs.size
        rw [Heap.size_update, hz']; exact Nat.le_succ_of_le hlo
      · exact I1.turnedL (t' := s.toks) (ch := [S]) (fun b o hb q => up b o (by simpa using hb) q) fun b hb => fp1 b (by simp at hb ⊢; exact .inl hb)
      · exact (Ext.of fun b x q => by rw [upd_ne (ne_of_none q (I.hok.fresh (Nat.le_refl _)))]; exact q).sqL q1
      · exact (Ext.of fun b x q => by rw [upd_ne (ne_of_none q (I.hok.fresh (Nat.le_refl _)))]; exact q).sqL q2
      · rw [Array.toList_push, hacc, List.map_append]; rfl
      · have e : (xs.zip ys).take (i + 1) = (xs.zip ys).take i ++ [(xs[i], ys[i])] := by
          rw [List.take_succ, List.getElem?_eq_getElem hlt, List.getElem_zip]; rfl
        rw [e]
        exact .snoc hL (I.hok.fresh (Nat.le_refl _))
    rcases st.zp with ⟨hz, a, b, hTO⟩ | ⟨T, f, oT, hz, hT, hl⟩
    · refine wpAny_bind (wpAny_pyNext_zip_item (A := A.in1) D hz st.ti hTO st.a st.b p.isList p2.isList (x := u) (y := u2) (by simpa using hu) (by simpa using hu2) fun h' z' TO' a' b' hT' hz' hk' => go h' hk' ⟨.inr ⟨_, _, _, z', hT', hlo⟩, hk' _ _ D.TIz D.TITO D.TIi1 D.TIi2 st.ti, a', b'⟩ hT' hz')
    · refine wpAny_bind (wpAny_pyNext_zip_item_held (A := A.in1) D hz hT st.ti st.a st.b p.isList p2.isList (x := u) (y := u2) (by simpa using hu) (by simpa using hu2) fun h' z' a' b' hT' hz' hk' => go h' (fun b o c1 _ c3 c4 => hk' b o c1 c3 c4) ⟨.inr ⟨_, _, _, z', hk' _ _ (Nat.ne_of_gt (Nat.lt_of_lt_of_le ltz hl)) (Nat.ne_of_gt (Nat.lt_of_lt_of_le lt1 hl)) (Nat.ne_of_gt (Nat.lt_of_lt_of_le lt2 hl)) hT, hl⟩, hk' _ _ D.TIz D.TIi1 D.TIi2 st.ti, a', b'⟩ hT' hz')
theorem zip_nolen : typeLookup (.type "zip") "__len__" = pure none := am_miss_of_fast (by decide +kernel)
theorem zip_nohint : typeLookup (.type "zip") "__length_hint__" = pure none := am_miss_of_fast (by decide +kernel)
theorem zl_hint {P : Program} {w : World} {A : Around} {E : Value → Shared → Prop} {s : Shared} {z : Addr} {Q : Bool → Shared → Prop} (hT : s.TypeIs (.ref z) "zip") (h : Q true s) : wpAny (model P w) A (Builtin.List.listLengthHint (.ref z)) Q E s := by
  unfold Builtin.List.listLengthHint
  refine wpAny_bind (wpAny_specialOf hT zip_nolen ?_)
  show wpAny _ A (specialOf (Value.ref z) (Str.ofString "__length_hint__") >>= _) _ _ s
  exact wpAny_bind (wpAny_specialOf hT zip_nohint (wpAny_pure h))
/-- the end of what list(zip) gives: the list is laid -/
theorem zl_call {xs ys : List V} {l1 l2 : Addr} {H : Hp} {s : Shared} {z TI TO i1 i2 : Addr} {A : Around} {E : Value → Shared → Prop} {Q : Value → Shared → Prop} (hh : A.handled = none) (D : ZipApart z TI TO i1 i2 l1 l2)
    (I : Inv X pins σ H s) (q1 : SqL X.K H l1 xs) (q2 : SqL X.K H l2 ys) (fp : ∀ b ∈ [z, TI, TO, i1, i2], FpOk X pins H b) (lt : z < s.heap.objs.size ∧ TI < s.heap.objs.size ∧ TO < s.heap.objs.size ∧ i1 < s.heap.objs.size ∧ i2 < s.heap.objs.size)
    (st : ZSt s.heap z TI TO i1 i2 l1 l2 (s.heap.objs.size + 1) 0) (hz : IsZip s.heap z TI TO .none)
    (hQ : ∀ s' H' Ts l, Laid H Ts (xs.zip ys) H' → H' l = none → Inv X pins σ (upd H' l (.lst (Ts.map V.ref))) s' → Q (.ref l) s') :
    wpAny (model X.prog X.w) A (call (.type "list") [.ref z]) Q E s := by
  obtain ⟨l_z, l_TI, l_TO, l_1, l_2⟩ := lt
  have hS0 : LstAt (s.heap.push { cls := .type "list", data := .seq #[] }) s.heap.objs.size #[] 0 := Heap.get?_push_size _ rfl
  have neS : s.heap.objs.size ∉ [z, TI, TO, i1, i2] := by
    simp only [List.mem_cons, List.not_mem_nil, or_false, not_or]
    exact ⟨Nat.ne_of_gt l_z, Nat.ne_of_gt l_TI, Nat.ne_of_gt l_TO, Nat.ne_of_gt l_1, Nat.ne_of_gt l_2⟩
  obtain ⟨_, _, _, hlen⟩ := I.list q1
  refine callType_codes (Q₁ := fun obj s₁ => obj = .ref s.heap.objs.size ∧ s₁ = { s with heap := s.heap.push { cls := .type "list", data := .seq #[] } }) F.called_list (F.typeCall_list_1 _) F.entry_list_init (code_list_new _ ⟨rfl, rfl⟩) fun obj s₁ h₁ => ?_
  obtain ⟨rfl, rfl⟩ := h₁
  refine ⟨⟨_, hS0, rfl⟩, F.args_list_init_2 _ _, ?_⟩
  show wpAny _ _ (do let old ← Builtin.List.listItems (.ref s.heap.objs.size); Builtin.List.listUpdate (.ref s.heap.objs.size) (fun _ => #[]); letGo old.toList.reverse; Builtin.List.listExtendWith (.ref s.heap.objs.size) (.ref z) .none) _ _ _
  refine wpAny_bind ?_; unfold Builtin.List.listItems
  refine wpAny_bind (wpAny_seqItems hS0 rfl (wpAny_pure ?_))
  show wpAny _ _ (updateSeq s.heap.objs.size (fun _ => #[]) >>= fun _ => letGo (#[] : Array Value).toList.reverse >>= fun _ => Builtin.List.listExtendWith (.ref s.heap.objs.size) (.ref z) .none) _ _ _
  refine wpAny_bind (wpAny_updateSeq hS0 rfl (wpAny_bind (wpAny_letGo ?_)))
  have hS2 := Heap.get?_update_self (Obj.mapSeq (fun _ => (#[] : Array Value))) hS0 rfl
  have k2 : ∀ b o, b ≠ s.heap.objs.size → s.heap.get? b = some o → ((s.heap.push { cls := .type "list", data := .seq #[] }).update s.heap.objs.size (Obj.mapSeq (fun _ => (#[] : Array Value)))).get? b = some o := fun b o hb e => (Heap.get?_update_other _ _ (Ne.symm hb)).trans (Heap.get?_push_of_some _ e)
  have st2 := st.but (Nat.lt_succ_self _) neS k2
  have hz2 := k2 _ _ (Nat.ne_of_lt l_z) hz
  have sz2 : ((s.heap.push { cls := .type "list", data := .seq #[] }).update s.heap.objs.size (Obj.mapSeq (fun _ => (#[] : Array Value)))).objs.size = s.heap.objs.size + 1 := by rw [Heap.size_update, Heap.size_push]
  generalize ((s.heap.push { cls := .type "list", data := .seq #[] }).update s.heap.objs.size (Obj.mapSeq (fun _ => (#[] : Array Value)))) = h2 at hS2 k2 st2 hz2 sz2 ⊢
  unfold Builtin.List.listExtendWith
  refine wpAny_bind (wpAny_typeOf (s := { s with heap := h2 }) (T := "zip") ⟨_, hz2, rfl⟩ ?_)
  have h1 : Builtin.List.listSameRef (.ref s.heap.objs.size) (.ref z) = false := by simp [Builtin.List.listSameRef, Nat.ne_of_gt l_z]
  have hb : (Value.type "zip" == Value.type "list") = false ∧ (Value.type "zip" == Value.type "tuple") = false := ⟨by decide, by decide⟩
  simp only [h1, hb.1, hb.2, Bool.or_false, Bool.false_eq_true, if_false]
  refine wpAny_bind (wpAny_pyIter_zip (s := { s with heap := h2 }) hz2 (wpAny_bind (wpAny_holding (zl_hint (s := { s with heap := h2 }) ⟨_, hz2, rfl⟩ ?_))))
  show wpAny _ _ (rule "list.extend.makes-room" >>= fun _ => Builtin.List.listTouch (.ref s.heap.objs.size) >>= fun _ => again (.builtin "list.extend.loop" ⟨[.ref s.heap.objs.size, .ref z, .none], []⟩)) _ _ _
  refine wpAny_bind (wpAny_rule (wpAny_bind ?_))
  show wpAny _ _ (updateSeq s.heap.objs.size (·.push .none) >>= fun _ => updateSeq s.heap.objs.size (·.pop)) _ _ _
  refine wpAny_bind (wpAny_updateSeq (s := { s with heap := h2 }) hS2 rfl ?_)
  have hS3 := Heap.get?_update_self (Obj.mapSeq (·.push Value.none)) hS2 rfl
  refine wpAny_updateSeq (hz := by seq_fits) hS3 rfl ?_
  have hS4 := Heap.get?_update_self (Obj.mapSeq (·.pop)) hS3 rfl
  have k4 : ∀ b o, b ≠ s.heap.objs.size → h2.get? b = some o → ((h2.update s.heap.objs.size (Obj.mapSeq (·.push Value.none))).update s.heap.objs.size (Obj.mapSeq (·.pop))).get? b = some o := fun b o hb e => (Heap.get?_update_other _ _ (Ne.symm hb)).trans ((Heap.get?_update_other _ _ (Ne.symm hb)).trans e)
  have st4 := st2.but (Nat.lt_succ_self _) neS k4
  have sz4 : ((h2.update s.heap.objs.size (Obj.mapSeq (·.push Value.none))).update s.heap.objs.size (Obj.mapSeq (·.pop))).objs.size = s.heap.objs.size + 1 := by rw [Heap.size_update, Heap.size_update, sz2]
  have kk : ∀ b o, s.heap.get? b = some o → ((h2.update s.heap.objs.size (Obj.mapSeq (·.push Value.none))).update s.heap.objs.size (Obj.mapSeq (·.pop))).get? b = some o := fun b o e => k4 b o (Nat.ne_of_lt (Heap.lt_size e)) (k2 b o (Nat.ne_of_lt (Heap.lt_size e)) e)
  have hn0 := I.hok.fresh (Nat.le_refl s.heap.objs.size)
  refine wpAny_pure ⟨plainId_quiet F.plain_extend_loop _, zl_loop (A := A.in1) (lo := s.heap.objs.size + 1) (H0 := H) hh D ⟨Nat.lt_succ_self _, Nat.lt_succ_of_lt l_z, Nat.lt_succ_of_lt l_TI, Nat.lt_succ_of_lt l_TO, Nat.lt_succ_of_lt l_1, Nat.lt_succ_of_lt l_2⟩ neS hlen (fun s' H' Ts acc c I' fpS hS' hacc hL => ?_) _ 0 _ H #[] _ [] rfl (Nat.zero_le _) (Nat.le_of_eq sz4.symm) (I.kept (t' := s.toks) kk) q1 q2 (fun b hb => ?_) st4 hS4 rfl .nil⟩
  · have ll : Ts.length ≤ sizeLine := by rw [hL.len, List.length_zip]; omega
    have rr : ∀ l : List Addr, Vals (l.map V.ref) (l.map Value.ref) := fun l => by
      induction l with
      | nil => exact .nil
      | cons a l ih => exact .cons rfl ih
    refine ⟨rfl, hQ s' H' Ts _ hL fpS.1 ?_⟩
    have lay : ObjOk X.prog X.w (upd H' s.heap.objs.size (.lst (Ts.map V.ref))) s'.heap s.heap.objs.size (.lst (Ts.map V.ref)) := ⟨by rw [List.length_map]; exact ll, acc.toList, c, by rw [hacc]; exact rr Ts, hS'⟩
    exact I'.track fpS lay
  · rcases List.mem_cons.mp hb with q | q
    · rw [q]; exact I.fpOk (Nat.le_refl _) hn0
    · exact fp b q
end
section
variable {X : Cx} {W : WX} {a b : Expr} {ta : TA} {fl : Rho → ReL} {p q pos cpos : Pos} {n : Nat}
def tLZ (K : PySem.W.Frag) (ta : TA) : TE := fun σ H Q => ta σ H fun vs H1 => ∃ l1 l2 xs ys, vs = [.ref l1, .ref l2] ∧ SqL K H1 l1 xs ∧ SqL K H1 l2 ys ∧ ∀ Ts H2 l, Laid H1 Ts (xs.zip ys) H2 → H2 l = none → Q (.ref l) (upd H2 l (.lst (Ts.map V.ref)))
theorem boot_list : bootBuiltins "list" = some (.type "list") := by decide +kernel
theorem pe_lz (hc : X.calm = true) (hgl : Gl X "list") (hml : X.mg "list" = none) (hg : Gl X "zip") (hm : X.mg "zip" = none) (ha : PA X [a, b] ta)
    (he : starEach [Expr.Call (.Name "zip" q) [a, b] [] pos] X.env = (false, eval (Expr.Call (.Name "zip" q) [a, b] [] pos) X.env) :: starEach [] X.env := by rfl)
    (hs : starEach [a, b] X.env = (false, eval a X.env) :: starEach [b] X.env := by rfl) (hpl : (backTo pos (starEach [b] X.env)).any (·.1) = false := by rfl) : PE X (.Call (.Name "list" p) [.Call (.Name "zip" q) [a, b] [] pos] [] cpos) (tLZ X.K ta) := by
  refine ⟨fun pins s σ H Q I hq => ?_⟩
  refine wpAny_Call_Name_kw (ld_blt I hgl hml boot_list ?_)
  refine PyProof.Rows.callWith_type1 ?_ he rfl
  rw [he]
  show wpAny _ _ (spliced ((false, eval (Expr.Call (.Name "zip" q) [a, b] [] pos) X.env) :: backTo cpos (starEach [] X.env))) _ _ s
  refine Calls.spliced_cons (Call_ (ld_blt I hg hm PyProof.Rows.boot_zip (PyProof.Rows.callWith_type1 (thn (ha.run pos pins s σ H _ I hq) fun us s1 ⟨vs, H1, I1, r1, q1⟩ => ?_) hs hpl)))
  obtain ⟨l1, l2, xs, ys, ex, hx, hy, q1⟩ := q1
  subst ex
  obtain ⟨u, us1, rfl, r, rr⟩ : ∃ u us1, us = u :: us1 ∧ RelV (.ref l1) u ∧ Vals [.ref l2] us1 := by cases r1 with | cons r rr => exact ⟨_, _, rfl, r, rr⟩
  obtain ⟨u2, rfl, r'⟩ : ∃ u2, us1 = [u2] ∧ RelV (.ref l2) u2 := by cases rr with | cons r rr => cases rr; exact ⟨_, rfl, r⟩
  cases r
  cases r'
  · skip
    obtain ⟨its, rv, p1, _⟩ := I1.list hx
    obtain ⟨its2, rv2, p2, _⟩ := I1.list hy
    refine call_zip_2 p1.isList p2.isList fun h' hz hTI hTO h1 h2 hsz hk => ?_
    refine Calls.spliced_nil ?_
    have I2 : Inv X pins σ H1 { s1 with heap := h' } := I1.kept (t' := s1.toks) hk
    refine zl_call (l1 := l1) (l2 := l2) (I.ok.hd hc) (PySem.W.ktu_apart s1.heap.objs.size l1 l2 p1.lt p2.lt) I2 hx hy (fun c hcm => ?_) ?_ ⟨.inl ⟨hz, _, _, hTO⟩, hTI, h1, h2⟩ hz fun s' H' Ts l hL hn I3 => ?_
    · have hle : s1.heap.objs.size ≤ c := by
        simp only [List.mem_cons, List.not_mem_nil, or_false] at hcm
        rcases hcm with z | z | z | z | z <;> rw [z] <;> first | exact Nat.le_add_right _ _ | exact Nat.le_refl _
      exact I1.fpOk hle (I1.hok.fresh hle)
    · show s1.heap.objs.size + 4 < h'.objs.size ∧ s1.heap.objs.size + 2 < h'.objs.size ∧ s1.heap.objs.size + 3 < h'.objs.size ∧ s1.heap.objs.size < h'.objs.size ∧ s1.heap.objs.size + 1 < h'.objs.size
      rw [hsz]
      exact ⟨Nat.add_lt_add_left (by decide) _, Nat.add_lt_add_left (by decide) _, Nat.add_lt_add_left (by decide) _, Nat.lt_add_of_pos_right (by decide), Nat.add_lt_add_left (by decide) _⟩
    · exact ⟨.ref l, _, I3, rfl, q1 Ts H' l hL hn⟩
theorem RpAll.unsnoc {K : PySem.W.Frag} {H : Hp} {v : V} : ∀ {vs : List V} {ds : List PyData}, RpAll K H (vs ++ [v]) ds → ∃ ds0 d, ds = ds0 ++ [d] ∧ RpAll K H vs ds0 ∧ Rp K H v d
  | [], _, .cons h .nil => ⟨[], _, rfl, .nil, h⟩
  | _ :: vs, _, .cons h r => by
    obtain ⟨ds0, d, rfl, r0, h0⟩ := RpAll.unsnoc (vs := vs) r
    exact ⟨_ :: ds0, d, rfl, .cons h r0, h0⟩
theorem pairD_snoc : ∀ {ds es : List PyData} {d e : PyData}, ds.length = es.length → pairD (ds ++ [d]) (es ++ [e]) = pairD ds es ++ [.tuple [d, e]]
  | [], [], _, _, _ => rfl
  | a :: ds, b :: es, d, e, h => by
    show .tuple [a, b] :: pairD (ds ++ [d]) (es ++ [e]) = _
    rw [pairD_snoc (by simpa using h)]; rfl
  | [], _ :: _, _, _, h => by simp at h
  | _ :: _, [], _, _, h => by simp at h
theorem laid_rp {K : PySem.W.Frag} {T : Its} {ρ : Rho} {F : Bs} {σ : St} {H H2 : Hp} {Ts : List Addr} {ps : List (V × V)} (l : Laid H Ts ps H2) : ∀ {Hf : Hp} {ds es : List PyData}, SI K Hf T ρ F σ H → RpAll K Hf (ps.map (·.1)) ds → RpAll K Hf (ps.map (·.2)) es →
    ∃ Hf2, Same Hf Hf2 ∧ SI K Hf2 T ρ F σ H2 ∧ RpAll K Hf2 (Ts.map V.ref) (pairD ds es) := by
  induction l with
  | nil => intro Hf ds es s r1 r2; cases r1; exact ⟨Hf, Same.refl _, s, by unfold pairD; exact .nil⟩
  | @snoc Ts ps H1 T' x y l hn ih =>
    intro Hf ds es s r1 r2
    rw [List.map_append] at r1 r2
    obtain ⟨ds0, d, rfl, r1, h1⟩ := RpAll.unsnoc r1
    obtain ⟨es0, e, rfl, r2, h2⟩ := RpAll.unsnoc r2
    obtain ⟨Hf2, sm, s2, r3⟩ := ih s r1 r2
    obtain ⟨s3, sm3⟩ := s2.new (u := .tup [x, y]) hn
    have e1 : ds0.length = es0.length := by rw [← r1.len, ← r2.len, List.length_map, List.length_map]
    refine ⟨_, sm.trans sm3, s3, ?_⟩
    rw [List.map_append, pairD_snoc e1]
    exact (r3.mono (.of sm3)).snoc (.tup (upd_same ..) (.cons (h1.mono (.of (sm.trans sm3))) (.cons (h2.mono (.of (sm.trans sm3))) .nil)))
theorem zip_rp {K : PySem.W.Frag} {H : Hp} : ∀ {xs ys : List V} {ds es : List PyData}, RpAll K H xs ds → RpAll K H ys es → RpAll K H ((xs.zip ys).map (·.1)) (ds.take (min ds.length es.length)) ∧ RpAll K H ((xs.zip ys).map (·.2)) (es.take (min ds.length es.length))
  | [], _, _, _, .nil, _ => ⟨by simpa using RpAll.nil, by simpa using RpAll.nil⟩
  | _ :: _, [], _, _, .cons _ _, .nil => ⟨by simpa using RpAll.nil, by simpa using RpAll.nil⟩
  | x :: xs, y :: ys, _, _, .cons h1 r1, .cons h2 r2 => by
    obtain ⟨a, b⟩ := zip_rp r1 r2
    simp only [List.zip_cons_cons, List.map_cons, List.length_cons, Nat.add_min_add_right, List.take_succ_cons]
    exact ⟨.cons h1 a, .cons h2 b⟩
theorem pairD_take : ∀ (ds es : List PyData), pairD (ds.take (min ds.length es.length)) (es.take (min ds.length es.length)) = pairD ds es
  | [], es => by simp [pairD]
  | _ :: _, [] => by simp [pairD]
  | a :: ds, b :: es => by
    simp only [List.length_cons, Nat.add_min_add_right, List.take_succ_cons, pairD]
    rw [pairD_take]
/-- list(zip(a, b)) -/
def gLZ : List OV → Option OV
  | [o, o2] => match fz o, fz o2 with
    | .list ds, .list es => some (.lst ((pairD ds es).map .sh))
    | _, _ => none
  | _ => none

theorem ev_lz (G : Good X W n) (hgl : Gl X "list") (hml : X.mg "list" = none) (hg : Gl X "zip") (hm : X.mg "zip" = none) (ha : EvL X W [a, b] fl)
    (he : starEach [Expr.Call (.Name "zip" q) [a, b] [] pos] X.env = (false, eval (Expr.Call (.Name "zip" q) [a, b] [] pos) X.env) :: starEach [] X.env := by rfl)
    (hs : starEach [a, b] X.env = (false, eval a X.env) :: starEach [b] X.env := by rfl) (hpl : (backTo pos (starEach [b] X.env)).any (·.1) = false := by rfl) : EvE X W (.Call (.Name "list" p) [.Call (.Name "zip" q) [a, b] [] pos] [] cpos) (eFn gLZ fl) :=
  pe_w (pe_lz G.calm hgl hml hg hm ha he hs hpl) fun σ H Q ⟨Hf, T, ρ, F, s, h⟩ => by
    refine ⟨Hf, T, ρ, F, s, PostL.bind h fun os ρ1 vs H1 Hf1 l sm s1 h1 => ?_⟩
    match os, vs, l, s1, h1 with
    | [o, o2], [v, w], _, s1, h1 =>
      obtain ⟨Hf2, sm2, s2⟩ := SI.freeze (T := (w, o2) :: T) s1
      obtain ⟨Hf3, sm3, s4⟩ := (s2.perm (List.Perm.swap _ _ _)).freeze
      have rw2 := s4.rp
      have rv := s4.drop.rp
      have sm' := sm2.trans sm3
      unfold gLZ at h1
      cases hd : fz o with
      | list ds =>
        rw [hd] at rv
        cases hd2 : fz o2 with
        | list es =>
          rw [hd2] at rw2
          simp only [hd, hd2] at h1
          obtain ⟨ad, xs, rfl, t1, r1⟩ := rv.sqL
          obtain ⟨bd, ys, rfl, t2, r2⟩ := rw2.sqL
          refine ⟨ad, bd, xs, ys, rfl, s4.sub.sqL t1, s4.sub.sqL t2, fun Ts H2 l hL hn => ?_⟩
          obtain ⟨q1, q2⟩ := zip_rp r1 r2
          obtain ⟨Hf4, sm4, s5, r3⟩ := laid_rp hL s4.drop.drop q1 q2
          rw [pairD_take] at r3
          obtain ⟨its, hs', s6⟩ := s5.ex
          exact h1 _ _ _ (sm'.trans sm4) ⟨its, hs', s6.mkLst r3 hn⟩
        | _ => simp only [hd, hd2] at h1; exact h1.elim
      | _ => simp only [hd] at h1; exact h1.elim
    | [], _, _, _, h1 => exact h1.elim
    | [_], _, _, _, h1 => exact h1.elim
    | _ :: _ :: _ :: _, _, _, _, h1 => exact h1.elim
end
end Ev
namespace Ev
open PySem PySem.Spec L2
open PyProof.Rows hiding St

/-! ### the direct style: what a mirror computes, without slots -/
inductive R (α : Type) where
  | ok (a : α) | exc (e : Exn) | stk
def R.bind {α β : Type} (q : R α) (k : α → R β) : R β := match q with
  | .ok a => k a
  | .exc e => .exc e
  | .stk => .stk
/-- what a block does: σ what it hands on -/
inductive O (σ : Type) where
  | next (s : σ) | ret (o : OV) | exc (e : Exn) | stk
def O.bind {σ τ : Type} (q : O σ) (k : σ → O τ) : O τ := match q with
  | .next s => k s
  | .ret o => .ret o
  | .exc e => .exc e
  | .stk => .stk
def O.of {σ : Type} (q : R σ) : O σ := match q with
  | .ok s => .next s
  | .exc e => .exc e
  | .stk => .stk
def O.fin {σ : Type} (q : O σ) : R OV := match q with
  | .next _ => .ok (.sh .none)
  | .ret o => .ok o
  | .exc e => .exc e
  | .stk => .stk
section
variable {α β σ τ : Type} {q q' : R α} {f : α → R β} {e : Exn}

theorem R.bind_ok {a : α} : R.bind (.ok a) f = f a := nrfl rfl
theorem R.bind_exc : R.bind (.exc e) f = .exc e := nrfl rfl
theorem R.bind_stk : R.bind .stk f = .stk := nrfl rfl

theorem O.bind_next {s : σ} {f : σ → O τ} : O.bind (.next s) f = f s := nrfl rfl
theorem O.bind_ret {o : OV} {f : σ → O τ} : O.bind (.ret o) f = .ret o := nrfl rfl
theorem O.bind_exc {f : σ → O τ} : O.bind (.exc e) f = .exc e := nrfl rfl
theorem O.bind_stk {f : σ → O τ} : O.bind .stk f = .stk := nrfl rfl
theorem O.of_ok {s : σ} : O.of (.ok s) = .next s := nrfl rfl
theorem O.of_exc : O.of (.exc e : R σ) = .exc e := nrfl rfl
theorem O.of_stk : O.of (.stk : R σ) = .stk := nrfl rfl
theorem O.fin_next {s : σ} : O.fin (.next s) = .ok (.sh .none) := nrfl rfl
theorem O.fin_ret {o : OV} : O.fin (.ret o : O σ) = .ok o := nrfl rfl
theorem O.fin_exc : O.fin (.exc e : O σ) = .exc e := nrfl rfl
end

/-- what is known of a slot -/
inductive Ps where
  | no | un | ex (o : OV) | fr (d : PyData)
abbrev Pat := List Ps
def Ps.ok : Ps → Option OV → Prop
  | .no, _ => True
  | .un, x => x = none
  | .ex o, x => x = some o
  | .fr d, x => ∃ o, x = some o ∧ fz o = d
def Mt : Pat → Rho → Prop
  | [], [] => True
  | s :: p, x :: ρ => s.ok x ∧ Mt p ρ
  | _, _ => False
theorem Mt.at : ∀ {p : Pat} {ρ : Rho} {i : Nat} {s : Ps}, Mt p ρ → p[i]? = some s → ∃ x, ρ[i]? = some x ∧ s.ok x
  | [], _, _, _, _, h => by simp at h
  | _ :: _, [], _, _, m, _ => m.elim
  | t :: p, x :: ρ, 0, s, m, h => by simp at h; subst h; exact ⟨x, rfl, m.1⟩
  | t :: p, x :: ρ, i + 1, s, m, h => by
    obtain ⟨y, h1, h2⟩ := Mt.at (i := i) (s := s) m.2 (by simpa using h)
    exact ⟨y, by simpa using h1, h2⟩
theorem Mt.set : ∀ {p : Pat} {ρ : Rho} (i : Nat) {s : Ps} {x : Option OV}, Mt p ρ → s.ok x → Mt (p.set i s) (ρ.set i x)
  | [], [], _, _, _, _, _ => trivial
  | [], _ :: _, _, _, _, m, _ => m.elim
  | _ :: _, [], _, _, _, m, _ => m.elim
  | t :: p, y :: ρ, 0, s, x, m, h => ⟨h, m.2⟩
  | t :: p, y :: ρ, i + 1, s, x, m, h => ⟨m.1, Mt.set i m.2 h⟩
theorem set_at {α : Type} : ∀ {l : List α} {i : Nat} {x : α}, l[i]? = some x → l.set i x = l
  | [], _, _, h => by simp at h
  | _ :: _, 0, _, h => by simp at h; subst h; rfl
  | _ :: _, i + 1, _, h => by
    have := set_at (i := i) (by simpa using h)
    simp [this]
/-- what is known less well -/
inductive Ple : Pat → Pat → Prop
  | nil : Ple [] []
  | eq {s : Ps} {p q : Pat} : Ple p q → Ple (s :: p) (s :: q)
  | no {s : Ps} {p q : Pat} : Ple p q → Ple (s :: p) (.no :: q)
  | fr {o : OV} {p q : Pat} : Ple p q → Ple (.ex o :: p) (.fr (fz o) :: q)
  | fs {d : PyData} {p q : Pat} : Ple p q → Ple (.ex (.sh d) :: p) (.fr d :: q)
theorem Ple.rf : ∀ {p : Pat}, Ple p p
  | [] => .nil
  | _ :: _ => .eq .rf
theorem Ple.mt : ∀ {p q : Pat} {ρ : Rho}, Ple p q → Mt p ρ → Mt q ρ
  | _, _, [], .nil, m => m
  | _, _, _ :: _, .nil, m => m.elim
  | _, _, [], .eq _, m => m.elim
  | _, _, [], .no _, m => m.elim
  | _, _, [], .fr _, m => m.elim
  | _, _, [], .fs _, m => m.elim
  | _, _, _ :: _, .eq h, m => ⟨m.1, h.mt m.2⟩
  | _, _, _ :: _, .no h, m => ⟨trivial, h.mt m.2⟩
  | _, _, _ :: _, .fr h, m => ⟨⟨_, m.1, rfl⟩, h.mt m.2⟩
  | _, _, _ :: _, .fs h, m => ⟨⟨_, m.1, fz_sh⟩, h.mt m.2⟩

/-! judgements -/
def jE (f : Rho → Re) (p : Pat) (q : R OV) (p' : Pat) : Prop := ∀ ρ, Mt p ρ → match q with
  | .ok o => ∃ ρ', f ρ = .ok o ρ' ∧ Mt p' ρ'
  | .exc e => ∃ ρ', f ρ = .exc e ρ'
  | .stk => True
def jL (f : Rho → ReL) (p : Pat) (q : R (List OV)) (p' : Pat) : Prop := ∀ ρ, Mt p ρ → match q with
  | .ok o => ∃ ρ', f ρ = .ok o ρ' ∧ Mt p' ρ'
  | .exc e => ∃ ρ', f ρ = .exc e ρ'
  | .stk => True
def jB (f : Rho → ReB) (p : Pat) (q : R Bool) (p' : Pat) : Prop := ∀ ρ, Mt p ρ → match q with
  | .ok o => ∃ ρ', f ρ = .ok o ρ' ∧ Mt p' ρ'
  | .exc e => ∃ ρ', f ρ = .exc e ρ'
  | .stk => True
def jI (f : Rho → ReI) (p : Pat) (q : R (List PyData)) (p' : Pat) : Prop := ∀ ρ, Mt p ρ → match q with
  | .ok o => ∃ ρ', f ρ = .ok o ρ' ∧ Mt p' ρ'
  | .exc e => ∃ ρ', f ρ = .exc e ρ'
  | .stk => True
/-- a target -/
def jT {τ : Type} (h : OV → Rho → Option Rho) (o : OV) (p : Pat) (q : R τ) (pt : τ → Pat) : Prop := ∀ ρ, Mt p ρ → match q with
  | .ok t => ∃ ρ', h o ρ = some ρ' ∧ Mt (pt t) ρ'
  | .exc _ => False
  | .stk => True
def jS {σ : Type} (g : Rho → Out) (p : Pat) (q : O σ) (st : σ → Pat) : Prop := ∀ ρ, Mt p ρ → match q with
  | .next s => ∃ ρ', g ρ = .next ρ' ∧ Mt (st s) ρ'
  | .ret o => ∃ ρ', g ρ = .ret o ρ'
  | .exc e => ∃ ρ', g ρ = .exc e ρ'
  | .stk => True
/-- a def -/
def jP (m : List PyData → Rv) (q : List PyData → R OV) : Prop := ∀ ds, match q ds with
  | .ok o => m ds = .ok o
  | .exc e => m ds = .exc e
  | .stk => True

section
variable {f fa fb fc : Rho → Re} {fl : Rho → ReL} {ta tb : Rho → ReB} {fi : Rho → ReI} {p p1 p2 p3 : Pat} {qa qb qc : R OV} {ql : R (List OV)} {qt qu : R Bool} {qi : R (List PyData)} {d : PyData} {o : OV} {i : Nat} {g g' : OV → OV → Option OV}
theorem jE.wk (h : jE f p qa p1) (l : Ple p1 p2) : jE f p qa p2 := fun ρ m => by
  have := h ρ m
  cases qa with
  | ok o => obtain ⟨ρ', a, b⟩ := this; exact ⟨ρ', a, l.mt b⟩
  | exc e => exact this
  | stk => trivial
theorem jB.wk (h : jB ta p qt p1) (l : Ple p1 p2) : jB ta p qt p2 := fun ρ m => by
  have := h ρ m
  cases qt with
  | ok o => obtain ⟨ρ', a, b⟩ := this; exact ⟨ρ', a, l.mt b⟩
  | exc e => exact this
  | stk => trivial
/-! leaves -/
theorem j_c : jE (cC d) p (.ok (.sh d)) p := fun ρ m => ⟨ρ, rfl, m⟩
theorem j_vx (h : p[i]? = some (.ex o)) : jE (eV i) p (.ok (.sh (fz o))) (p.set i (.ex (.sh (fz o)))) := fun ρ m => by
  obtain ⟨x, h1, rfl⟩ := m.at h
  exact ⟨_, by unfold eV; rw [h1], m.set i rfl⟩
/-- what is shared already -/
theorem j_v (h : p[i]? = some (.ex (.sh d))) : jE (eV i) p (.ok (.sh d)) p := fun ρ m => by
  obtain ⟨x, h1, rfl⟩ := m.at h
  have e : fz (.sh d) = d := fz_sh
  refine ⟨_, by unfold eV; simp only [h1, e]; rfl, ?_⟩
  have := m.set i (s := .ex (.sh d)) (x := some (.sh d)) rfl
  rw [set_at h] at this
  exact this
theorem j_vf (h : p[i]? = some (.fr d)) : jE (eV i) p (.ok (.sh d)) p := fun ρ m => by
  obtain ⟨x, h1, o, rfl, h2⟩ := m.at h
  refine ⟨_, by unfold eV; simp only [h1, h2]; rfl, ?_⟩
  have := m.set i (s := .fr d) (x := some (.sh d)) ⟨_, rfl, fz_sh⟩
  rw [set_at h] at this
  exact this
theorem j_m (h : p[i]? = some (.ex o)) : jE (eM i) p (.ok o) (p.set i .un) := fun ρ m => by
  obtain ⟨x, h1, rfl⟩ := m.at h
  exact ⟨_, by unfold eM; rw [h1], m.set i rfl⟩
/-! operators -/
def ofOR (x : Option OV) : R OV := match x with
  | some c => .ok c
  | none => .stk
def ofPR (x : Option PyData) : R OV := match x with
  | some c => .ok (.sh c)
  | none => .stk
theorem ofOR_some : ofOR (some o) = .ok o := nrfl rfl
theorem ofPR_some : ofPR (some d) = .ok (.sh d) := nrfl rfl
theorem j_bin (ha : jE fa p qa p1) (hb : jE fb p1 qb p2) : jE (eBin g fa fb) p (qa.bind fun a => qb.bind fun b => ofOR (g a b)) p2 := fun ρ m => by
  have h1 := ha ρ m
  unfold eBin
  cases qa with
  | stk => trivial
  | exc e => obtain ⟨ρ', a⟩ := h1; exact ⟨ρ', by rw [a]; rfl⟩
  | ok a =>
    obtain ⟨ρ1, a1, m1⟩ := h1
    have h2 := hb ρ1 m1
    rw [a1]
    cases qb with
    | stk => trivial
    | exc e => obtain ⟨ρ', a⟩ := h2; exact ⟨ρ', by simp only [bindE, a]⟩
    | ok b =>
      obtain ⟨ρ2, a2, m2⟩ := h2
      simp only [bindE, a2, R.bind]
      cases g a b with
      | none => trivial
      | some c => exact ⟨ρ2, rfl, m2⟩
theorem j_un {g : OV → Option OV} (ha : jE fa p qa p1) : jE (eUn g fa) p (qa.bind fun a => ofOR (g a)) p1 := fun ρ m => by
  have h1 := ha ρ m
  unfold eUn
  cases qa with
  | stk => trivial
  | exc e => obtain ⟨ρ', a⟩ := h1; exact ⟨ρ', by rw [a]; rfl⟩
  | ok a =>
    obtain ⟨ρ1, a1, m1⟩ := h1
    simp only [a1, bindE, R.bind]
    cases g a with
    | none => trivial
    | some c => exact ⟨ρ1, rfl, m1⟩
theorem j_lnil : jL lNil p (.ok []) p := fun ρ m => ⟨ρ, rfl, m⟩
theorem j_lcons (ha : jE f p qa p1) (hb : jL fl p1 ql p2) : jL (lCons f fl) p (qa.bind fun a => ql.bind fun l => .ok (a :: l)) p2 := fun ρ m => by
  have h1 := ha ρ m
  unfold lCons
  cases qa with
  | stk => trivial
  | exc e => obtain ⟨ρ', a⟩ := h1; exact ⟨ρ', by rw [a]; rfl⟩
  | ok a =>
    obtain ⟨ρ1, a1, m1⟩ := h1
    have h2 := hb ρ1 m1
    rw [a1]
    cases ql with
    | stk => trivial
    | exc e => obtain ⟨ρ', a⟩ := h2; exact ⟨ρ', by simp only [bindEL, bindLL, a]⟩
    | ok b =>
      obtain ⟨ρ2, a2, m2⟩ := h2
      exact ⟨ρ2, by simp only [bindEL, bindLL, a2], m2⟩
theorem jL.bind {k : List OV → R OV} {kk : List OV → Rho → Re} (h : jL fl p ql p1) (hk : ∀ os, jE (kk os) p1 (k os) p1) : jE (fun ρ => bindL (fl ρ) kk) p (ql.bind k) p1 := fun ρ m => by
  have h1 := h ρ m
  cases ql with
  | stk => trivial
  | exc e => obtain ⟨ρ', a⟩ := h1; exact ⟨ρ', by simp only [a]; rfl⟩
  | ok os =>
    obtain ⟨ρ1, a1, m1⟩ := h1
    have := hk os ρ1 m1
    simp only [a1, bindL, R.bind]
    exact this
def szR {α : Type} (n : Nat) (x : α) : R α := if n ≤ sizeLine then .ok x else .stk
theorem j_tup (h : jL fl p ql p1) : jE (eTup fl) p (ql.bind fun os => szR os.length (.sh (.tuple (os.map fz)))) p1 := jL.bind h fun os ρ m => by
  unfold szR
  by_cases q : os.length ≤ sizeLine
  · simp only [if_pos q]; exact ⟨ρ, rfl, m⟩
  · simp only [if_neg q]
theorem j_lst (h : jL fl p ql p1) : jE (eLst fl) p (ql.bind fun os => szR os.length (.lst os)) p1 := jL.bind h fun os ρ m => by
  unfold szR
  by_cases q : os.length ≤ sizeLine
  · simp only [if_pos q]; exact ⟨ρ, rfl, m⟩
  · simp only [if_neg q]
theorem j_fn {g : List OV → Option OV} (h : jL fl p ql p1) : jE (eFn g fl) p (ql.bind fun os => ofOR (g os)) p1 := jL.bind h fun os ρ m => by
  cases g os with
  | none => trivial
  | some c => exact ⟨ρ, rfl, m⟩
theorem j_call {mm : List PyData → Rv} {qq : List PyData → R OV} (hc : jP mm qq) (h : jL fl p ql p1) : jE (eCall mm fl) p (ql.bind fun os => qq (os.map fz)) p1 := jL.bind h fun os ρ m => by
  have := hc (os.map fz)
  generalize qq (os.map fz) = z at this
  cases z with
  | stk => trivial
  | exc e => exact ⟨ρ, by simp only [this, ofRv]⟩
  | ok a => exact ⟨ρ, by simp only [this, ofRv], m⟩
/-! truth -/
def toBR (o : OV) : R Bool := match o with
  | .sh (.bool b) => .ok b
  | _ => .stk
theorem toBR_b {b : Bool} : toBR (.sh (.bool b)) = .ok b := nrfl rfl
theorem j_test (h : jE f p qa p1) : jB (eTest f) p (qa.bind toBR) p1 := fun ρ m => by
  have h1 := h ρ m
  unfold eTest
  cases qa with
  | stk => trivial
  | exc e => obtain ⟨ρ', a⟩ := h1; exact ⟨ρ', by rw [a]; rfl⟩
  | ok a =>
    obtain ⟨ρ1, a1, m1⟩ := h1
    simp only [a1, bindEB, R.bind]
    cases a with
    | sh d => cases d <;> first | trivial | exact ⟨ρ1, rfl, m1⟩
    | lst _ => trivial
    | dk _ => trivial
    | dt _ => trivial
theorem jB.bind {α : Type} {k : Bool → R Bool} {kk : Bool → Rho → ReB} (h : jB ta p qt p1) (hk : ∀ os, jB (kk os) p1 (k os) p2) : jB (fun ρ => bindBB (ta ρ) kk) p (qt.bind k) p2 := fun ρ m => by
  have h1 := h ρ m
  cases qt with
  | stk => trivial
  | exc e => obtain ⟨ρ', a⟩ := h1; exact ⟨ρ', by simp only [a]; rfl⟩
  | ok os =>
    obtain ⟨ρ1, a1, m1⟩ := h1
    have := hk os ρ1 m1
    simp only [a1, bindBB, R.bind]
    exact this
theorem j_not (h : jB ta p qt p1) : jB (bNot ta) p (qt.bind fun b => .ok (!b)) p1 := jB.bind (α := Bool) h fun b ρ m => ⟨ρ, rfl, m⟩
theorem j_band (ha : jB ta p qt p1) (hb : jB tb p1 qu p2) (l : Ple p1 p2) : jB (bAnd ta tb) p (qt.bind fun b => if b = true then qu else .ok false) p2 := jB.bind (α := Bool) ha fun b => by
  cases b with
  | true => exact hb
  | false => exact fun ρ m => ⟨ρ, rfl, l.mt m⟩
theorem j_bor (ha : jB ta p qt p1) (hb : jB tb p1 qu p2) (l : Ple p1 p2) : jB (bOr ta tb) p (qt.bind fun b => if b = true then .ok true else qu) p2 := jB.bind (α := Bool) ha fun b => by
  cases b with
  | false => exact hb
  | true => exact fun ρ m => ⟨ρ, rfl, l.mt m⟩
def andR (o : OV) (q : R OV) : R OV := match o with
  | .sh (.bool true) => q
  | .sh (.bool false) => .ok (.sh (.bool false))
  | _ => .stk
def orR (o : OV) (q : R OV) : R OV := match o with
  | .sh (.bool true) => .ok (.sh (.bool true))
  | .sh (.bool false) => q
  | _ => .stk
theorem andR_b {b : Bool} {q : R OV} : andR (.sh (.bool b)) q = if b = true then q else .ok (.sh (.bool false)) := by cases b <;> rfl
theorem orR_b {b : Bool} {q : R OV} : orR (.sh (.bool b)) q = if b = true then .ok (.sh (.bool true)) else q := by cases b <;> rfl
theorem jE.bind {k : OV → R OV} {kk : OV → Rho → Re} (h : jE f p qa p1) (hk : ∀ o, jE (kk o) p1 (k o) p2) : jE (fun ρ => bindE (f ρ) kk) p (qa.bind k) p2 := fun ρ m => by
  have h1 := h ρ m
  cases qa with
  | stk => trivial
  | exc e => obtain ⟨ρ', a⟩ := h1; exact ⟨ρ', by simp only [a]; rfl⟩
  | ok os =>
    obtain ⟨ρ1, a1, m1⟩ := h1
    have := hk os ρ1 m1
    simp only [a1, bindE, R.bind]
    exact this
theorem j_and (ha : jE fa p qa p1) (hb : jE fb p1 qb p2) (l : Ple p1 p2) : jE (eAnd fa fb) p (qa.bind fun o => andR o qb) p2 := jE.bind ha fun o ρ m => by
  cases o with
  | sh d =>
    cases d with
    | bool b =>
      cases b with
      | true => exact hb ρ m
      | false => exact ⟨ρ, rfl, l.mt m⟩
    | _ => trivial
  | _ => trivial
theorem j_or (ha : jE fa p qa p1) (hb : jE fb p1 qb p2) (l : Ple p1 p2) : jE (eOr fa fb) p (qa.bind fun o => orR o qb) p2 := jE.bind ha fun o ρ m => by
  cases o with
  | sh d =>
    cases d with
    | bool b =>
      cases b with
      | false => exact hb ρ m
      | true => exact ⟨ρ, rfl, l.mt m⟩
    | _ => trivial
  | _ => trivial
theorem j_ife (ht : jB ta p qt p1) (ha : jE fa p1 qa p2) (hb : jE fb p1 qb p2) : jE (eIf ta fa fb) p (qt.bind fun b => if b = true then qa else qb) p2 := fun ρ m => by
  have h1 := ht ρ m
  unfold eIf
  cases qt with
  | stk => trivial
  | exc e => obtain ⟨ρ', a⟩ := h1; exact ⟨ρ', by rw [a]; rfl⟩
  | ok b =>
    obtain ⟨ρ1, a1, m1⟩ := h1
    simp only [a1, bindB, R.bind]
    cases b with
    | true => exact ha ρ1 m1
    | false => exact hb ρ1 m1
def chR (c : Option OV) (q : R OV) : R OV := match c with
  | some (.sh (.bool true)) => q
  | some (.sh (.bool false)) => .ok (.sh (.bool false))
  | _ => .stk
theorem chR_b {b : Bool} {q : R OV} : chR (some (.sh (.bool b))) q = if b = true then q else .ok (.sh (.bool false)) := by cases b <;> rfl
theorem j_chain (ha : jE fa p qa p1) (hb : jE fb p1 qb p2) (hc : jE fc p2 qc p3) (l : Ple p2 p3) : jE (eChain g g' fa fb fc) p (qa.bind fun a => qb.bind fun b => chR (g a b) (qc.bind fun c => ofOR (g' b c))) p3 := jE.bind ha fun a => jE.bind hb fun b ρ m => by
  cases g a b with
  | none => trivial
  | some c =>
    cases c with
    | sh d =>
      cases d with
      | bool b' =>
        cases b' with
        | true =>
          have := jE.bind (kk := fun z ρ3 => ofO (g' b z) ρ3) hc (k := fun c => ofOR (g' b c)) (p2 := p3) (fun z ρ m => by
              show match ofOR (g' b z) with | .ok o => _ | .exc e => _ | .stk => _
              unfold ofOR
              cases g' b z with
              | none => trivial
              | some c => exact ⟨ρ, rfl, m⟩) ρ m
          exact this
        | false => exact ⟨ρ, rfl, l.mt m⟩
      | _ => trivial
    | _ => trivial
/-! what is read and left owned -/
def Ps.dat : Ps → Option PyData
  | .ex o => some (fz o)
  | .fr d => some d
  | _ => none
theorem Ps.dat_ok {s : Ps} {x : Option OV} {d : PyData} (h : s.dat = some d) (k : s.ok x) : ∃ o, x = some o ∧ fz o = d := by
  cases s with
  | ex o => cases h; exact ⟨o, k, rfl⟩
  | fr d => cases h; exact k
  | no => cases h
  | un => cases h
theorem j_bR {g : PyData → PyData → Option PyData} {s : Ps} (ha : jE fa p qa p1) (h : p1[i]? = some s) (hs : s.dat = some d) : jE (eBR g fa i) p (qa.bind fun a => ofPR (g (fz a) d)) p1 := jE.bind ha fun a ρ m => by
  obtain ⟨x, h1, h2⟩ := m.at h
  obtain ⟨o, rfl, rfl⟩ := Ps.dat_ok hs h2
  simp only [h1]
  unfold ofPR ofP
  cases g (fz a) (fz o) with
  | none => trivial
  | some c => exact ⟨ρ, rfl, m⟩
theorem j_bL {g : PyData → PyData → Option PyData} {s s0 : Ps} {d0 : PyData} (h0 : p[i]? = some s0) (hs0 : s0.dat = some d0) (hb : jE fb p qb p1) (h : p1[i]? = some s) (hs : s.dat = some d) : jE (eBL g i fb) p (qb.bind fun b => ofPR (g d (fz b))) p1 := fun ρ m => by
  obtain ⟨x, h1, h2⟩ := m.at h0
  obtain ⟨o, rfl, _⟩ := Ps.dat_ok hs0 h2
  unfold eBL
  rw [if_pos (by unfold isOv; rw [h1])]
  refine jE.bind hb (kk := fun b ρ1 => match ρ1[i]? with
    | some (some o) => ofP (g (fz o) (fz b)) ρ1
    | _ => .stk) (fun b ρ m => ?_) ρ m
  obtain ⟨x, h1, h2⟩ := m.at h
  obtain ⟨o, rfl, rfl⟩ := Ps.dat_ok hs h2
  simp only [h1]
  unfold ofPR ofP
  cases g (fz o) (fz b) with
  | none => trivial
  | some c => exact ⟨ρ, rfl, m⟩
theorem j_b1 {g : PyData → Option PyData} {s : Ps} (h : p[i]? = some s) (hs : s.dat = some d) : jE (eB1 g i) p (ofPR (g d)) p := fun ρ m => by
  obtain ⟨x, h1, h2⟩ := m.at h
  obtain ⟨o, rfl, rfl⟩ := Ps.dat_ok hs h2
  unfold eB1 ofPR
  simp only [h1]
  cases g (fz o) with
  | none => trivial
  | some c => exact ⟨ρ, rfl, m⟩
/-! slices -/
def iR (o : OV) : R Int := match o with
  | .sh (.int i) => .ok i
  | _ => .stk
theorem iR_i {i : Int} : iR (.sh (.int i)) = .ok i := nrfl rfl
def jO (f : Option (Rho → Re)) (p : Pat) (q : R (Option Int)) (p' : Pat) : Prop := ∀ ρ, Mt p ρ → match q with
  | .ok o => ∃ ρ', (∀ k : Option Int → Rho → Re, partR f ρ k = k o ρ') ∧ Mt p' ρ'
  | .exc e => ∃ ρ', ∀ k : Option Int → Rho → Re, partR f ρ k = .exc e ρ'
  | .stk => True
theorem j_ono : jO none p (.ok none) p := fun ρ m => ⟨ρ, fun k => rfl, m⟩
theorem j_osome (h : jE f p qa p1) : jO (some f) p (qa.bind fun o => (iR o).bind fun i => .ok (some i)) p1 := fun ρ m => by
  have h1 := h ρ m
  cases qa with
  | stk => trivial
  | exc e => obtain ⟨ρ', a⟩ := h1; exact ⟨ρ', fun k => by simp only [partR, a]; rfl⟩
  | ok o =>
    obtain ⟨ρ1, a1, m1⟩ := h1
    cases o with
    | sh d =>
      cases d with
      | int i => exact ⟨ρ1, fun k => by simp only [partR, a1, bindE], m1⟩
      | _ => trivial
    | _ => trivial
theorem j_sl {lo hi : Option (Rho → Re)} {ql qh : R (Option Int)} (ha : jE fa p qa p1) (hl : jO lo p1 ql p2) (hh : jO hi p2 qh p3) : jE (eSl fa lo hi) p (qa.bind fun a => ql.bind fun l => qh.bind fun h => ofOR (gSl a l h)) p3 := jE.bind ha fun a ρ m => by
  have h1 := hl ρ m
  cases ql with
  | stk => trivial
  | exc e => obtain ⟨ρ', a⟩ := h1; exact ⟨ρ', a _⟩
  | ok l =>
    obtain ⟨ρ1, a1, m1⟩ := h1
    have h2 := hh ρ1 m1
    simp only [a1, R.bind]
    cases qh with
    | stk => trivial
    | exc e => obtain ⟨ρ', a⟩ := h2; exact ⟨ρ', a _⟩
    | ok u =>
      obtain ⟨ρ2, a2, m2⟩ := h2
      simp only [a2]
      unfold ofOR
      cases gSl a l u with
      | none => trivial
      | some c => exact ⟨ρ2, rfl, m2⟩
/-! dicts written down -/
theorem j_dT : jE eDT p (.ok (.dt [])) p := fun ρ m => ⟨ρ, rfl, m⟩
theorem j_dK : jE eDK p (.ok (.dk [])) p := fun ρ m => ⟨ρ, rfl, m⟩
def jPs (fps : List ((Rho → Re) × (Rho → Re))) (p : Pat) (q : R (List (OV × OV))) (p' : Pat) : Prop := ∀ ρ, Mt p ρ → match q with
  | .ok ps => ∃ ρ', evPs fps ρ = some (ps, ρ') ∧ Mt p' ρ'
  | _ => True
def noX {α : Type} (q : R α) : R α := match q with
  | .exc _ => .stk
  | q => q
theorem noX_ok {α : Type} {a : α} : noX (.ok a) = .ok a := nrfl rfl
theorem j_psnil : jPs [] p (.ok []) p := fun ρ m => ⟨ρ, rfl, m⟩
theorem j_pscons {fps : List ((Rho → Re) × (Rho → Re))} {qq : R (List (OV × OV))} (ha : jE fa p qa p1) (hb : jE fb p1 qb p2) (hr : jPs fps p2 qq p3) : jPs ((fa, fb) :: fps) p (qa.bind fun a => qb.bind fun b => qq.bind fun r => .ok ((a, b) :: r)) p3 := fun ρ m => by
  have h1 := ha ρ m
  cases qa with
  | stk => trivial
  | exc e => trivial
  | ok a =>
    obtain ⟨ρ1, a1, m1⟩ := h1
    have h2 := hb ρ1 m1
    cases qb with
    | stk => trivial
    | exc e => trivial
    | ok b =>
      obtain ⟨ρ2, a2, m2⟩ := h2
      have h3 := hr ρ2 m2
      cases qq with
      | stk => trivial
      | exc e => trivial
      | ok r =>
        obtain ⟨ρ3, a3, m3⟩ := h3
        exact ⟨ρ3, by simp only [evPs, a1, a2, a3], m3⟩
def dictR (ps : List (OV × OV)) : R OV := match keysP ps with
  | some kvs => if kvs.length ≤ 15 ∧ (kvs.map (·.1)).Nodup then .ok (.dk kvs) else .stk
  | none => .stk
theorem j_dict {fps : List ((Rho → Re) × (Rho → Re))} {qq : R (List (OV × OV))} (h : jPs fps p qq p1) : jE (eDict fps) p ((noX qq).bind dictR) p1 := fun ρ m => by
  have h1 := h ρ m
  cases qq with
  | stk => trivial
  | exc e => trivial
  | ok ps =>
    obtain ⟨ρ1, a1, m1⟩ := h1
    simp only [noX, R.bind]
    unfold dictR eDict
    rw [a1]
    simp only
    cases keysP ps with
    | none => trivial
    | some kvs =>
      by_cases c : kvs.length ≤ 15 ∧ (kvs.map (·.1)).Nodup
      · simp only [if_pos c]; exact ⟨ρ1, rfl, m1⟩
      · simp only [if_neg c]
end
end Ev
namespace Ev
open PySem PySem.Spec L2
open PyProof.Rows hiding St

/-! ### targets -/
def nd (l : List PyData) (i : Nat) : PyData := l.getD i .none
theorem nd0 {a : PyData} {l : List PyData} : nd (a :: l) 0 = a := nrfl rfl
theorem nd1 {a b : PyData} {l : List PyData} : nd (a :: b :: l) 1 = b := nrfl rfl
theorem nd2 {a b c : PyData} {l : List PyData} : nd (a :: b :: c :: l) 2 = c := nrfl rfl
theorem nd3 {a b c d : PyData} {l : List PyData} : nd (a :: b :: c :: d :: l) 3 = d := nrfl rfl
theorem nd4 {a b c d e : PyData} {l : List PyData} : nd (a :: b :: c :: d :: e :: l) 4 = e := nrfl rfl
theorem nd5 {a b c d e f : PyData} {l : List PyData} : nd (a :: b :: c :: d :: e :: f :: l) 5 = f := nrfl rfl
theorem nd6 {a b c d e f g : PyData} {l : List PyData} : nd (a :: b :: c :: d :: e :: f :: g :: l) 6 = g := nrfl rfl
def unT (n : Nat) (d : PyData) : R (List PyData) := match d with
  | .tuple ds => if ds.length = n then .ok ds else .stk
  | .list ds => if ds.length = n then .ok ds else .stk
  | _ => .stk
theorem unT_t {n : Nat} {ds : List PyData} (h : ds.length = n) : unT n (.tuple ds) = .ok ds := if_pos h
theorem unT_l {n : Nat} {ds : List PyData} (h : ds.length = n) : unT n (.list ds) = .ok ds := if_pos h
section
variable {p p1 p2 p3 pc : Pat} {i n k : Nat} {o : OV} {h : OV → Rho → Option Rho} {hs : List PyData → Rho → Option Rho} {t : List PyData}
theorem jt_name : jT (hName i) o p (.ok ()) (fun _ => p.set i (.ex o)) := fun ρ m => ⟨_, rfl, m.set i rfl⟩
def jTs (n k : Nat) (hs : List PyData → Rho → Option Rho) (t : List PyData) (p p' : Pat) : Prop := t.length = n → ∀ ρ, Mt p ρ → ∃ ρ', hs (t.drop k) ρ = some ρ' ∧ Mt p' ρ'
theorem jts_nil : jTs n n hNil t p p := fun hl ρ m => ⟨ρ, by rw [List.drop_of_length_le (by omega)]; rfl, m⟩
theorem jts_cons (hk : k < n) (h : jTs n (k + 1) hs t (p.set i (.ex (.sh (nd t k)))) p1) : jTs n k (hCons (hName i) hs) t p p1 := fun hl ρ m => by
  have e : t.drop k = nd t k :: t.drop (k + 1) := by
    have hk' : k < t.length := by omega
    rw [List.drop_eq_getElem_cons hk']
    unfold nd
    rw [List.getD_eq_getElem?_getD, List.getElem?_eq_getElem hk']; rfl
  obtain ⟨ρ', h1, h2⟩ := h hl _ (m.set i (s := .ex (.sh (nd t k))) (x := some (.sh (nd t k))) rfl)
  refine ⟨ρ', ?_, h2⟩
  rw [e]
  exact h1
theorem jt_tup {pt : List PyData → Pat} (h : ∀ t, jTs n 0 hs t p (pt t)) : jT (hTup n hs) o p (unT n (fz o)) pt := fun ρ m => by
  unfold unT hTup
  generalize fz o = d
  cases d with
  | tuple ds =>
    by_cases q : ds.length = n
    · obtain ⟨ρ', h1, h2⟩ := h ds q ρ m
      simp only [if_pos q]
      exact ⟨ρ', h1, h2⟩
    · simp only [if_neg q]
  | list ds =>
    by_cases q : ds.length = n
    · obtain ⟨ρ', h1, h2⟩ := h ds q ρ m
      simp only [if_pos q]
      exact ⟨ρ', h1, h2⟩
    · simp only [if_neg q]
  | _ => trivial
end
/-! ### what is walked -/
def itR (o : OV) : R (List PyData) := match itemsOf (fz o) with
  | some ds => .ok ds
  | none => .stk
def rng1R (o : OV) : R (List PyData) := match o with
  | .sh (.int j) => if rngOk j = true then .ok (upto 0 j.toNat) else .stk
  | _ => .stk
def rng2R (os : List OV) : R (List PyData) := match os with
  | [.sh (.int i), .sh (.int j)] => if (rngOk i && rngOk j) = true then .ok (upto i (j - i).toNat) else .stk
  | _ => .stk
def rng3R (os : List OV) : R (List PyData) := match os with
  | [.sh (.int i), .sh (.int j), .sh (.int c)] => if stepOk i j c = true then .ok (stepD i c (Builtin.Range.rangeSize i j c).toNat) else .stk
  | _ => .stk
def enR (o : OV) : R (List PyData) := match itemsOf (fz o) with
  | some ds => .ok (enumD 0 ds)
  | none => .stk
def zipR (os : List OV) : R (List PyData) := match os with
  | [o, o2] => match fz o, fz o2 with
    | .list ds, .list es => .ok (pairD ds es)
    | .tuple ds, .tuple es => .ok (pairD ds es)
    | _, _ => .stk
  | _ => .stk
section
variable {f : Rho → Re} {fl : Rho → ReL} {p p1 : Pat} {q : R OV} {ql : R (List OV)}
theorem j_ival (h : jE f p q p1) : jI (iVal f) p (q.bind itR) p1 := fun ρ m => by
  have h1 := h ρ m
  cases q with
  | stk => trivial
  | exc e => obtain ⟨ρ', a⟩ := h1; exact ⟨ρ', by unfold iVal; rw [a]⟩
  | ok o =>
    obtain ⟨ρ1, a1, m1⟩ := h1
    simp only [R.bind]
    unfold itR iVal
    rw [a1]
    cases e : itemsOf (fz o) with
    | none => trivial
    | some ds => exact ⟨ρ1, by simp only [e], m1⟩
theorem j_ienum (h : jE f p q p1) : jI (iEnumA f) p (q.bind enR) p1 := fun ρ m => by
  have h1 := h ρ m
  cases q with
  | stk => trivial
  | exc e => obtain ⟨ρ', a⟩ := h1; exact ⟨ρ', by unfold iEnumA; rw [a]⟩
  | ok o =>
    obtain ⟨ρ1, a1, m1⟩ := h1
    simp only [R.bind]
    unfold enR iEnumA
    rw [a1]
    cases e : itemsOf (fz o) with
    | none => trivial
    | some ds => exact ⟨ρ1, by simp only [e], m1⟩
theorem j_irange1 (h : jE f p q p1) : jI (iRange1 f) p (q.bind rng1R) p1 := fun ρ m => by
  have h1 := h ρ m
  cases q with
  | stk => trivial
  | exc e => obtain ⟨ρ', a⟩ := h1; exact ⟨ρ', by unfold iRange1; rw [a]⟩
  | ok o =>
    obtain ⟨ρ1, a1, m1⟩ := h1
    simp only [R.bind]
    unfold rng1R iRange1
    rw [a1]
    cases o with
    | sh d =>
      cases d with
      | int j =>
        by_cases c : rngOk j = true
        · simp only [if_pos c]; exact ⟨ρ1, rfl, m1⟩
        · simp only [if_neg c]
      | _ => trivial
    | _ => trivial
theorem j_irange2 (h : jL fl p ql p1) : jI (iRange2 fl) p (ql.bind rng2R) p1 := fun ρ m => by
  have h1 := h ρ m
  cases ql with
  | stk => trivial
  | exc e => obtain ⟨ρ', a⟩ := h1; exact ⟨ρ', by unfold iRange2; rw [a]⟩
  | ok o =>
    obtain ⟨ρ1, a1, m1⟩ := h1
    simp only [R.bind]
    unfold iRange2
    rw [a1]
    by_cases z : ∃ i j, o = [.sh (.int i), .sh (.int j)]
    · obtain ⟨i, j, rfl⟩ := z
      by_cases c : (rngOk i && rngOk j) = true
      · simp only [rng2R, if_pos c]; exact ⟨ρ1, rfl, m1⟩
      · simp only [rng2R, if_neg c]
    · have e : rng2R o = .stk := by
        unfold rng2R
        split
        · exact absurd ⟨_, _, rfl⟩ z
        · rfl
      rw [e]; trivial
theorem j_irange3 (h : jL fl p ql p1) : jI (iRange3 fl) p (ql.bind rng3R) p1 := fun ρ m => by
  have h1 := h ρ m
  cases ql with
  | stk => trivial
  | exc e => obtain ⟨ρ', a⟩ := h1; exact ⟨ρ', by unfold iRange3; rw [a]⟩
  | ok o =>
    obtain ⟨ρ1, a1, m1⟩ := h1
    simp only [R.bind]
    unfold iRange3
    rw [a1]
    by_cases z : ∃ i j k, o = [.sh (.int i), .sh (.int j), .sh (.int k)]
    · obtain ⟨i, j, k, rfl⟩ := z
      by_cases c : stepOk i j k = true
      · simp only [rng3R, if_pos c]; exact ⟨ρ1, rfl, m1⟩
      · simp only [rng3R, if_neg c]
    · have e : rng3R o = .stk := by
        unfold rng3R
        split
        · exact absurd ⟨_, _, _, rfl⟩ z
        · rfl
      rw [e]; trivial
theorem j_izip (h : jL fl p ql p1) : jI (iZip fl) p (ql.bind zipR) p1 := fun ρ m => by
  have h1 := h ρ m
  cases ql with
  | stk => trivial
  | exc e => obtain ⟨ρ', a⟩ := h1; exact ⟨ρ', by unfold iZip; rw [a]⟩
  | ok o =>
    obtain ⟨ρ1, a1, m1⟩ := h1
    simp only [R.bind]
    unfold zipR iZip
    rw [a1]
    match o with
    | [] => trivial
    | [_] => trivial
    | _ :: _ :: _ :: _ => trivial
    | [o, o2] =>
      simp only
      generalize fz o = d1
      generalize fz o2 = d2
      cases d1 with
      | list ds => cases d2 <;> first | trivial | exact ⟨ρ1, rfl, m1⟩
      | tuple ds => cases d2 <;> first | trivial | exact ⟨ρ1, rfl, m1⟩
      | _ => trivial
end
/-! ### comprehensions -/
def noP : List Nat → Pat → Pat
  | [], p => p
  | i :: is, p => noP is (p.set i .no)
theorem fgt_mt : ∀ (vs : List Nat) {p : Pat} {ρ : Rho}, Mt p ρ → Mt (noP vs p) (fgt vs ρ)
  | [], _, _, m => m
  | i :: is, _, _, m => fgt_mt is (m.set i trivial)
def relP : List Nat → Pat → Pat → Pat
  | [], _, p => p
  | i :: is, p0, p => match p0[i]? with
    | some (.ex (.sh d)) => relP is p0 (p.set i (.ex (.sh d)))
    | _ => relP is p0 (p.set i .no)
theorem Mt.no : ∀ {p : Pat} {ρ : Rho} (i : Nat), Mt p ρ → Mt (p.set i .no) ρ
  | [], [], _, m => m
  | [], _ :: _, _, m => m.elim
  | _ :: _, [], _, m => m.elim
  | t :: p, y :: ρ, 0, m => ⟨trivial, m.2⟩
  | t :: p, y :: ρ, i + 1, m => ⟨m.1, Mt.no i m.2⟩
theorem relay_mt : ∀ (vs : List Nat) {p0 p : Pat} {ρ0 ρ : Rho}, Mt p0 ρ0 → Mt p ρ → Mt (relP vs p0 p) (relay vs ρ0 ρ)
  | [], _, _, _, _, _, m => m
  | i :: is, p0, p, ρ0, ρ, m0, m => by
    unfold relP relay
    split
    · rename_i d h
      obtain ⟨x, h1, rfl⟩ := m0.at h
      rw [h1]
      exact relay_mt is m0 (m.set i rfl)
    · split
      · exact relay_mt is m0 (m.set i trivial)
      · exact relay_mt is m0 (m.no i)
def lcR (f : PyData → R (Option OV)) : List PyData → R (List OV)
  | [] => .ok []
  | d :: ds => match f d with
    | .ok (some o) => (match lcR f ds with
      | .ok os => .ok (o :: os)
      | _ => .stk)
    | .ok none => lcR f ds
    | _ => .stk
/-- one turn of a comprehension -/
def jK (vs : List Nat) (h : OV → Rho → Option Rho) (tt : Rho → ReB) (te : Rho → Re) (d : PyData) (pc : Pat) (q : R (Option OV)) : Prop := ∀ ρ, Mt pc ρ → match q with
  | .ok none => ∃ ρ1 ρ2, h (.sh d) ρ = some ρ1 ∧ tt ρ1 = .ok false ρ2 ∧ Mt pc (fgt vs ρ2)
  | .ok (some o) => ∃ ρ1 ρ2 ρ3, h (.sh d) ρ = some ρ1 ∧ tt ρ1 = .ok true ρ2 ∧ te ρ2 = .ok o ρ3 ∧ Mt pc (fgt vs ρ3)
  | _ => True
section
variable {p p1 p2 p3 pc : Pat} {i n k : Nat} {o : OV} {vs : List Nat} {h : OV → Rho → Option Rho} {tt : Rho → ReB} {te : Rho → Re} {d : PyData} {fi : Rho → ReI} {qi : R (List PyData)}
theorem j_turn {τ : Type} {qt : R τ} {pt pb pe : τ → Pat} {qb : τ → R Bool} {qe : τ → R OV} (ht : jT h (.sh d) pc qt pt) (hb : ∀ t, jB tt (pt t) (qb t) (pb t)) (he : ∀ t, jE te (pb t) (qe t) (pe t)) (l1 : ∀ t, Ple (noP vs (pb t)) pc) (l2 : ∀ t, Ple (noP vs (pe t)) pc) :
    jK vs h tt te d pc (qt.bind fun t => (qb t).bind fun b => if b = true then (qe t).bind fun o => .ok (some o) else .ok none) := fun ρ m => by
  have h1 := ht ρ m
  cases qt with
  | stk => trivial
  | exc e => exact h1.elim
  | ok t =>
    obtain ⟨ρ1, a1, m1⟩ := h1
    have h2 := hb t ρ1 m1
    simp only [R.bind]
    generalize qb t = z at h2
    cases z with
    | stk => trivial
    | exc e => trivial
    | ok b =>
      obtain ⟨ρ2, a2, m2⟩ := h2
      cases b with
      | false => exact ⟨ρ1, ρ2, a1, a2, (l1 t).mt (fgt_mt vs m2)⟩
      | true =>
        have h3 := he t ρ2 m2
        simp only [if_true]
        generalize qe t = z at h3
        cases z with
        | stk => trivial
        | exc e => trivial
        | ok o =>
          obtain ⟨ρ3, a3, m3⟩ := h3
          exact ⟨ρ1, ρ2, ρ3, a1, a2, a3, (l2 t).mt (fgt_mt vs m3)⟩
theorem j_turn1 {τ : Type} {qt : R τ} {pt pe : τ → Pat} {qe : τ → R OV} (ht : jT h (.sh d) pc qt pt) (he : ∀ t, jE te (pt t) (qe t) (pe t)) (l2 : ∀ t, Ple (noP vs (pe t)) pc) :
    jK vs h tYesR te d pc (qt.bind fun t => (qe t).bind fun o => .ok (some o)) := fun ρ m => by
  have h1 := ht ρ m
  cases qt with
  | stk => trivial
  | exc e => exact h1.elim
  | ok t =>
    obtain ⟨ρ1, a1, m1⟩ := h1
    have h3 := he t ρ1 m1
    simp only [R.bind]
    generalize qe t = z at h3
    cases z with
    | stk => trivial
    | exc e => trivial
    | ok o =>
      obtain ⟨ρ3, a3, m3⟩ := h3
      exact ⟨ρ1, ρ1, ρ3, a1, rfl, a3, (l2 t).mt (fgt_mt vs m3)⟩
theorem j_turnN {pb pe : Pat} {qb : R Bool} {qe : R OV} (hb : jB tt (pc.set i (.ex (.sh d))) qb pb) (he : jE te pb qe pe) (l1 : Ple (noP vs pb) pc) (l2 : Ple (noP vs pe) pc) :
    jK vs (hName i) tt te d pc (qb.bind fun b => if b = true then qe.bind fun o => .ok (some o) else .ok none) := j_turn (qt := .ok ()) (qb := fun _ => qb) (qe := fun _ => qe) jt_name (fun _ => hb) (fun _ => he) (fun _ => l1) (fun _ => l2)
theorem j_turn1N {pe : Pat} {qe : R OV} (he : jE te (pc.set i (.ex (.sh d))) qe pe) (l2 : Ple (noP vs pe) pc) :
    jK vs (hName i) tYesR te d pc (qe.bind fun o => .ok (some o)) := j_turn1 (qt := .ok ()) (qe := fun _ => qe) jt_name (fun _ => he) (fun _ => l2)
theorem compL_mt {qk : PyData → R (Option OV)} (hk : ∀ d, jK vs h tt te d pc (qk d)) : ∀ (ds : List PyData) (os : List OV) (k : Nat) (ρ : Rho), lcR qk ds = .ok os → k + os.length ≤ sizeLine → Mt pc ρ → ∃ ρ', compL vs h tt te ds k ρ = .ok os ρ' ∧ Mt pc ρ'
  | [], os, k, ρ, e, _, m => by
    unfold lcR at e; cases e
    exact ⟨ρ, rfl, m⟩
  | d :: ds, os, k, ρ, e, l, m => by
    have h1 := hk d ρ m
    unfold lcR at e
    unfold compL
    generalize qk d = z at h1 e
    cases z with
    | stk => cases e
    | exc x => cases e
    | ok x =>
      cases x with
      | none =>
        obtain ⟨ρ1, ρ2, a1, a2, m2⟩ := h1
        obtain ⟨ρ', b1, b2⟩ := compL_mt hk ds os k _ e l m2
        exact ⟨ρ', by simp only [a1, a2]; exact b1, b2⟩
      | some o =>
        obtain ⟨ρ1, ρ2, ρ3, a1, a2, a3, m3⟩ := h1
        simp only at e
        cases q : lcR qk ds with
        | stk => rw [q] at e; cases e
        | exc x => rw [q] at e; cases e
        | ok os2 =>
          rw [q] at e
          cases e
          rw [List.length_cons] at l
          obtain ⟨ρ', b1, b2⟩ := compL_mt hk ds os2 (k + 1) _ q (by omega) m3
          exact ⟨ρ', by simp only [a1, a2, a3]; rw [if_pos (by omega)]; simp only [b1], b2⟩
theorem lcR_noexc {qk : PyData → R (Option OV)} : ∀ {ds : List PyData} {e : Exn}, lcR qk ds ≠ .exc e
  | [], _, h => by unfold lcR at h; cases h
  | d :: ds, e, h => by
    unfold lcR at h
    split at h
    · split at h <;> cases h
    · exact lcR_noexc h
    · cases h
theorem j_lc {qk : PyData → R (Option OV)} (hi : jI fi p qi p1) (l : Ple (noP vs p1) pc) (hk : ∀ d, jK vs h tt te d pc (qk d)) : jE (eLc vs fi h tt te) p (qi.bind fun ds => (lcR qk ds).bind fun os => szR os.length (.lst os)) (relP vs p1 pc) := fun ρ m => by
  have h1 := hi ρ m
  cases qi with
  | stk => trivial
  | exc e => obtain ⟨ρ', a⟩ := h1; exact ⟨ρ', by unfold eLc; rw [a]⟩
  | ok ds =>
    obtain ⟨ρ1, a1, m1⟩ := h1
    simp only [R.bind]
    unfold eLc
    rw [a1]
    cases q : lcR qk ds with
    | stk => trivial
    | exc e => exact absurd q lcR_noexc
    | ok os =>
      simp only
      unfold szR
      by_cases c : os.length ≤ sizeLine
      · obtain ⟨ρ', b1, b2⟩ := compL_mt hk ds os 0 (fgt vs ρ1) q (by omega) (l.mt (fgt_mt vs m1))
        simp only [if_pos c, b1]
        exact ⟨_, rfl, relay_mt vs m1 b2⟩
      · simp only [if_neg c]
end
/-! ### statements -/
def ownR (T : String) (x : OV) : R Unit := if ownT x = T then .ok () else .stk
def mutR (g : OV → List OV → Option (OV × OV)) (x : OV) (os : List OV) : R (OV × OV) := match g x os with
  | some r => .ok r
  | none => .stk
def setR (x k o : OV) : R OV := match setO x (fz k) o with
  | some c => .ok c
  | none => .stk
def subR (x k : OV) : R OV := match subO x (fz k) with
  | some c => .ok c
  | none => .stk
def par2R (os : List OV) : R (OV × OV) := match os with
  | [a, b] => .ok (a, b)
  | _ => .stk
def forO {σ : Type} (ds : List PyData) (f : PyData → σ → O σ) (s : σ) : O σ := match ds with
  | [] => .next s
  | d :: ds => (f d s).bind fun s' => forO ds f s'
section
variable {σ τ : Type} {p p1 p2 p3 pc : Pat} {i j n k : Nat} {o x x0 : OV} {f fk : Rho → Re} {fl : Rho → ReL} {tc : Rho → ReB} {fi : Rho → ReI} {q qk : R OV} {ql : R (List OV)} {qb : R Bool} {qi : R (List PyData)} {g1 g2 body : Rho → Out} {h : OV → Rho → Option Rho} {st : σ → Pat} {fs : List Nat} {T : String} {g : OV → List OV → Option (OV × OV)}
theorem js_nil {s : σ} (l : Ple p (st s)) : jS sNil p (.next s) st := fun ρ m => ⟨ρ, rfl, l.mt m⟩
theorem js_seq {q1 : O τ} {st1 : τ → Pat} {kk : τ → O σ} (h1 : jS g1 p q1 st1) (h2 : ∀ s, jS g2 (st1 s) (kk s) st) : jS (sCons g1 g2) p (q1.bind kk) st := fun ρ m => by
  have a := h1 ρ m
  cases q1 with
  | stk => trivial
  | exc e => obtain ⟨ρ', a⟩ := a; exact ⟨ρ', by unfold sCons; rw [a]⟩
  | ret o => obtain ⟨ρ', a⟩ := a; exact ⟨ρ', by unfold sCons; rw [a]⟩
  | next s =>
    obtain ⟨ρ1, a, m1⟩ := a
    have b := h2 s ρ1 m1
    simp only [O.bind]
    unfold sCons
    rw [a]
    exact b
/-- an expression's end -/
theorem js_ofE {st : OV → Pat} {gg : Rho → Out} (h : jE f p q p1) (hg : ∀ ρ, gg ρ = bindS (f ρ) fun o ρ1 => .next (ρ1.set i (some o))) : jS gg p (O.of q) (fun o => p1.set i (.ex o)) := fun ρ m => by
  have a := h ρ m
  rw [hg]
  cases q with
  | stk => trivial
  | exc e => obtain ⟨ρ', a⟩ := a; exact ⟨ρ', by rw [a]; rfl⟩
  | ok o => obtain ⟨ρ', a, m1⟩ := a; exact ⟨ρ'.set i (some o), by rw [a]; rfl, m1.set i rfl⟩
theorem js_set (h : jE f p q p1) : jS (sSet i f) p (O.of q) (fun o => p1.set i (.ex o)) := js_ofE (st := fun _ => p) h fun _ => rfl
theorem js_pass : jS sPass p (.next ()) (fun _ => p) := fun ρ m => ⟨ρ, rfl, m⟩
theorem js_expr (h : jE f p q p1) : jS (sExpr f) p (O.of (q.bind fun _ => .ok ())) (fun _ => p1) := fun ρ m => by
  have a := h ρ m
  unfold sExpr
  cases q with
  | stk => trivial
  | exc e => obtain ⟨ρ', a⟩ := a; exact ⟨ρ', by rw [a]; rfl⟩
  | ok o => obtain ⟨ρ', a, m1⟩ := a; exact ⟨ρ', by rw [a]; rfl, m1⟩
theorem js_ret (h : jE f p q p1) : jS (sRet f) p (O.bind (O.of q) fun o => .ret o) st := fun ρ m => by
  have a := h ρ m
  unfold sRet
  cases q with
  | stk => trivial
  | exc e => obtain ⟨ρ', a⟩ := a; exact ⟨ρ', by rw [a]; rfl⟩
  | ok o => obtain ⟨ρ', a, m1⟩ := a; exact ⟨ρ', by rw [a]; rfl⟩
theorem js_retN : jS sRetN p (.ret (.sh .none)) st := fun ρ m => ⟨ρ, rfl⟩
theorem js_retc (h : jE f p q p1) : jS (sCons (sRet f) g2) p (O.bind (O.of q) fun o => .ret o) st := fun ρ m => by
  have a := h ρ m
  unfold sCons sRet
  cases q with
  | stk => trivial
  | exc e => obtain ⟨ρ', a⟩ := a; exact ⟨ρ', by rw [a]; rfl⟩
  | ok o => obtain ⟨ρ', a, m1⟩ := a; exact ⟨ρ', by rw [a]; rfl⟩
theorem js_retNc : jS (sCons sRetN g2) p (.ret (.sh .none)) st := fun ρ m => ⟨ρ, rfl⟩
theorem js_if {q1 q2 : O σ} (hc : jB tc p qb p1) (h1 : jS g1 p1 q1 st) (h2 : jS g2 p1 q2 st) : jS (sIf tc g1 g2) p (O.bind (O.of qb) fun b => if b = true then q1 else q2) st := fun ρ m => by
  have a := hc ρ m
  unfold sIf
  cases qb with
  | stk => trivial
  | exc e => obtain ⟨ρ', a⟩ := a; exact ⟨ρ', by rw [a]; rfl⟩
  | ok b =>
    obtain ⟨ρ1, a, m1⟩ := a
    rw [a]
    cases b with
    | true => exact h1 ρ1 m1
    | false => exact h2 ρ1 m1
theorem js_asg {qt : OV → R τ} {pt : OV → τ → Pat} {pt' : τ → Pat} (hf : jE f p q p1) (ht : ∀ o, jT h o p1 (qt o) pt') : jS (sAsg h f) p (O.of (q.bind qt)) pt' := fun ρ m => by
  have a := hf ρ m
  unfold sAsg
  cases q with
  | stk => trivial
  | exc e => obtain ⟨ρ', a⟩ := a; exact ⟨ρ', by rw [a]; rfl⟩
  | ok o =>
    obtain ⟨ρ1, a, m1⟩ := a
    have b := ht o ρ1 m1
    rw [a]
    simp only [R.bind, bindS]
    generalize qt o = z at b
    cases z with
    | stk => trivial
    | exc e => exact b.elim
    | ok t => obtain ⟨ρ2, b, m2⟩ := b; exact ⟨ρ2, by rw [b]; rfl, m2⟩
end
end Ev
namespace Ev
open PySem PySem.Spec L2
open PyProof.Rows hiding St

section
variable {σ τ : Type} {p p1 p2 p3 pc : Pat} {i j n k : Nat} {o x x0 x1 : OV} {f fk : Rho → Re} {fl : Rho → ReL} {tc : Rho → ReB} {fi : Rho → ReI} {q qk : R OV} {ql : R (List OV)} {qb : R Bool} {qi : R (List PyData)} {g1 g2 body : Rho → Out} {h : OV → Rho → Option Rho} {st : σ → Pat} {fs : List Nat} {T : String} {g : OV → List OV → Option (OV × OV)}
theorem forO_mt {fb : PyData → σ → O σ} (hb : ∀ d s, ∀ ρ, Mt (st s) ρ → match fb d s with
      | .next s' => ∃ ρ1 ρ2, h (.sh d) ρ = some ρ1 ∧ body ρ1 = .next ρ2 ∧ Mt (st s') (fgt fs ρ2)
      | .ret o => ∃ ρ1 ρ2, h (.sh d) ρ = some ρ1 ∧ body ρ1 = .ret o ρ2
      | .exc e => ∃ ρ1 ρ2, h (.sh d) ρ = some ρ1 ∧ body ρ1 = .exc e ρ2
      | .stk => True) : ∀ (ds : List PyData) (s : σ) (ρ : Rho), Mt (st s) ρ → match forO ds fb s with
      | .next s' => ∃ ρ', forL fs h body ds ρ = .next ρ' ∧ Mt (st s') ρ'
      | .ret o => ∃ ρ', forL fs h body ds ρ = .ret o ρ'
      | .exc e => ∃ ρ', forL fs h body ds ρ = .exc e ρ'
      | .stk => True
  | [], s, ρ, m => ⟨ρ, rfl, m⟩
  | d :: ds, s, ρ, m => by
    have h1 := hb d s ρ m
    unfold forO forL
    generalize fb d s = z at h1
    cases z with
    | stk => trivial
    | exc e => obtain ⟨ρ1, ρ2, a, b⟩ := h1; exact ⟨ρ2, by simp only [a, b]⟩
    | ret e => obtain ⟨ρ1, ρ2, a, b⟩ := h1; exact ⟨ρ2, by simp only [a, b]⟩
    | next s' =>
      obtain ⟨ρ1, ρ2, a, b, m2⟩ := h1
      simp only [a, b, O.bind]
      exact forO_mt hb ds s' _ m2
theorem js_for {qt : PyData → σ → R τ} {pt : PyData → σ → τ → Pat} {qb : PyData → σ → τ → O σ} {s0 : σ} (hi : jI fi p qi p1) (l : Ple (noP fs p1) (st s0)) (ht : ∀ d s, jT h (.sh d) (st s) (qt d s) (pt d s)) (hb : ∀ d s t, jS body (pt d s t) (qb d s t) st) (hf : ∀ s, noP fs (st s) = st s) :
    jS (sFor fs fi h body) p (O.bind (O.of qi) fun ds => forO ds (fun d s => O.bind (O.of (qt d s)) fun t => qb d s t) s0) st := fun ρ m => by
  have a := hi ρ m
  unfold sFor
  cases qi with
  | stk => trivial
  | exc e => obtain ⟨ρ', a⟩ := a; exact ⟨ρ', by rw [a]⟩
  | ok ds =>
    obtain ⟨ρ1, a, m1⟩ := a
    rw [a]
    refine forO_mt (fun d s ρ m => ?_) ds s0 _ (l.mt (fgt_mt fs m1))
    have b := ht d s ρ m
    generalize qt d s = z at b
    cases z with
    | stk => trivial
    | exc e => exact b.elim
    | ok t =>
      obtain ⟨ρ1, b, m1⟩ := b
      have c := hb d s t ρ1 m1
      simp only [O.of, O.bind]
      generalize qb d s t = z at c
      cases z with
      | stk => trivial
      | exc e => obtain ⟨ρ2, c⟩ := c; exact ⟨ρ1, ρ2, b, c⟩
      | ret e => obtain ⟨ρ2, c⟩ := c; exact ⟨ρ1, ρ2, b, c⟩
      | next s' =>
        obtain ⟨ρ2, c, m2⟩ := c
        refine ⟨ρ1, ρ2, b, c, ?_⟩
        rw [← hf s']
        exact fgt_mt fs m2
theorem js_forN {qb : PyData → σ → O σ} {s0 : σ} (hi : jI fi p qi p1) (l : Ple (noP fs p1) (st s0)) (hb : ∀ d s, jS body ((st s).set i (.ex (.sh d))) (qb d s) st) (hf : ∀ s, noP fs (st s) = st s) :
    jS (sFor fs fi (hName i) body) p (O.bind (O.of qi) fun ds => forO ds (fun d s => qb d s) s0) st :=
  js_for (qt := fun _ _ => .ok ()) (qb := fun d s _ => qb d s) (pt := fun d s _ => (st s).set i (.ex (.sh d))) hi l (fun d s => jt_name) (fun d s _ => hb d s) hf
/-! what is changed in place -/
theorem js_mut (h0 : p[i]? = some (.ex x0)) (hl : jL fl p ql p1) (h1 : p1[i]? = some (.ex x)) : jS (sExpr (eMut i T g fl)) p (O.of ((ownR T x0).bind fun _ => ql.bind fun os => (mutR g x os).bind fun r => .ok r.1)) (fun x' => p1.set i (.ex x')) := fun ρ m => by
  obtain ⟨y, a0, rfl⟩ := m.at h0
  unfold ownR sExpr eMut
  rw [a0]
  by_cases c : ownT x0 = T
  · simp only [if_pos c, R.bind]
    have a := hl ρ m
    cases ql with
    | stk => trivial
    | exc e => obtain ⟨ρ', a⟩ := a; exact ⟨ρ', by rw [a]; rfl⟩
    | ok os =>
      obtain ⟨ρ1, a, m1⟩ := a
      obtain ⟨y, a1, rfl⟩ := m1.at h1
      simp only [a, bindL]
      unfold mutR ofM
      rw [a1]
      cases e : g x os with
      | none => trivial
      | some r => exact ⟨ρ1.set i (some r.1), by simp only [e]; rfl, m1.set i rfl⟩
  · simp only [if_neg c, R.bind, O.of]
theorem js_mutA (h0 : p[i]? = some (.ex x0)) (hl : jL fl p ql p1) (h1 : p1[i]? = some (.ex x)) : jS (sSet j (eMut i T g fl)) p (O.of ((ownR T x0).bind fun _ => ql.bind fun os => mutR g x os)) (fun r => (p1.set i (.ex r.1)).set j (.ex r.2)) := fun ρ m => by
  obtain ⟨y, a0, rfl⟩ := m.at h0
  unfold ownR sSet eMut
  rw [a0]
  by_cases c : ownT x0 = T
  · simp only [if_pos c, R.bind]
    have a := hl ρ m
    cases ql with
    | stk => trivial
    | exc e => obtain ⟨ρ', a⟩ := a; exact ⟨ρ', by rw [a]; rfl⟩
    | ok os =>
      obtain ⟨ρ1, a, m1⟩ := a
      obtain ⟨y, a1, rfl⟩ := m1.at h1
      simp only [a, bindL]
      unfold mutR ofM
      rw [a1]
      cases e : g x os with
      | none => trivial
      | some r => exact ⟨(ρ1.set i (some r.1)).set j (some r.2), by simp only [e]; rfl, (m1.set i (s := .ex r.1) (x := some r.1) rfl).set j (s := .ex r.2) (x := some r.2) rfl⟩
  · simp only [if_neg c, R.bind, O.of]
theorem js_setIx {s : Ps} {d0 : PyData} (hf : jE f p q p1) (h1 : p1[i]? = some s) (hs : s.dat = some d0) (hk : jE fk p1 qk p2) (h2 : p2[i]? = some (.ex x)) : jS (sSetIx i f fk) p (O.of (q.bind fun o => qk.bind fun k => setR x k o)) (fun x' => p2.set i (.ex x')) := fun ρ m => by
  have a := hf ρ m
  unfold sSetIx
  cases q with
  | stk => trivial
  | exc e => obtain ⟨ρ', a⟩ := a; exact ⟨ρ', by rw [a]; rfl⟩
  | ok o =>
    obtain ⟨ρ1, a, m1⟩ := a
    obtain ⟨y, a1, b1⟩ := m1.at h1
    obtain ⟨y', rfl, _⟩ := Ps.dat_ok hs b1
    simp only [a, bindS, R.bind, a1, if_true]
    have b := hk ρ1 m1
    cases qk with
    | stk => trivial
    | exc e => obtain ⟨ρ', b⟩ := b; exact ⟨ρ', by rw [b]⟩
    | ok kk =>
      obtain ⟨ρ2, b, m2⟩ := b
      obtain ⟨y, a2, rfl⟩ := m2.at h2
      simp only [b, R.bind]
      unfold setR ofSt
      rw [a2]
      cases e : setO x (fz kk) o with
      | none => trivial
      | some c => exact ⟨ρ2.set i (some c), by simp only [e], m2.set i rfl⟩
theorem js_aug {gg : Int → Int → Int} (h0 : p[i]? = some (.ex x0)) (hf : jE f p q p1) (h1 : p1[i]? = some (.ex x)) : jS (sAug i gg f) p (O.of ((iR x0).bind fun _ => q.bind fun o => (iR x).bind fun a => (iR o).bind fun b => .ok (.sh (.int (gg a b))))) (fun x' => p1.set i (.ex x')) := fun ρ m => by
  obtain ⟨y, a0, rfl⟩ := m.at h0
  unfold sAug
  rw [a0]
  by_cases z : ∃ c, x0 = .sh (.int c)
  · obtain ⟨c, rfl⟩ := z
    have a := hf ρ m
    simp only [iR, R.bind]
    cases q with
    | stk => trivial
    | exc e => obtain ⟨ρ', a⟩ := a; exact ⟨ρ', by rw [a]; rfl⟩
    | ok o =>
      obtain ⟨ρ1, a, m1⟩ := a
      obtain ⟨y, a1, rfl⟩ := m1.at h1
      simp only [a, bindS]
      rw [a1]
      by_cases z1 : ∃ c, x = .sh (.int c)
      · obtain ⟨c1, rfl⟩ := z1
        by_cases z2 : ∃ c, o = .sh (.int c)
        · obtain ⟨c2, rfl⟩ := z2
          exact ⟨_, rfl, m1.set i rfl⟩
        · have e : iR o = .stk := by
            unfold iR
            split
            · exact absurd ⟨_, rfl⟩ z2
            · rfl
          unfold iR at e
          simp only [e]; trivial
      · have e : iR x = .stk := by
          unfold iR
          split
          · exact absurd ⟨_, rfl⟩ z1
          · rfl
        unfold iR at e
        simp only [e]; trivial
  · have e : iR x0 = .stk := by
      unfold iR
      split
      · exact absurd ⟨_, rfl⟩ z
      · rfl
    rw [e]; trivial
theorem js_par (hl : jL fl p ql p1) : jS (sPar i j fl) p (O.of (ql.bind par2R)) (fun r => (p1.set i (.ex r.1)).set j (.ex r.2)) := fun ρ m => by
  have a := hl ρ m
  unfold sPar
  cases ql with
  | stk => trivial
  | exc e => obtain ⟨ρ', a⟩ := a; exact ⟨ρ', by rw [a]⟩
  | ok os =>
    obtain ⟨ρ1, a, m1⟩ := a
    rw [a]
    match os with
    | [] => trivial
    | [_] => trivial
    | _ :: _ :: _ :: _ => trivial
    | [u, v] => exact ⟨_, rfl, (m1.set i (s := .ex u) (x := some u) rfl).set j (s := .ex v) (x := some v) rfl⟩
theorem js_mutS {s : Ps} {d0 : PyData} (h0 : p[i]? = some s) (hs : s.dat = some d0) (hk : jE fk p qk p1) (h1 : p1[i]? = some (.ex x)) (hl : jL fl (p1.set i .un) ql p2) (h2 : p2[i]? = some .un) :
    jS (sExpr (eMutS i T g fk fl)) p (O.of (qk.bind fun k => (subR x k).bind fun o => (ownR T o).bind fun _ => (noX ql).bind fun os => (mutR g o os).bind fun r => .ok (putO x (fz k) r.1))) (fun x' => p2.set i (.ex x')) := fun ρ m => by
  obtain ⟨y, a0, b0⟩ := m.at h0
  obtain ⟨y', rfl, _⟩ := Ps.dat_ok hs b0
  unfold sExpr eMutS
  rw [if_pos (by unfold isOv; rw [a0])]
  have a := hk ρ m
  cases qk with
  | stk => trivial
  | exc e => obtain ⟨ρ', a⟩ := a; exact ⟨ρ', by rw [a]; rfl⟩
  | ok kk =>
    obtain ⟨ρ1, a, m1⟩ := a
    obtain ⟨y, a1, rfl⟩ := m1.at h1
    simp only [a, bindE, R.bind]
    rw [a1]
    unfold subR
    cases e : subO x (fz kk) with
    | none => trivial
    | some o =>
      simp only
      unfold ownR
      by_cases c : ownT o = T
      · simp only [if_pos c]
        have b := hl _ (m1.set i (s := .un) (x := none) rfl)
        cases ql with
        | stk => trivial
        | exc e => trivial
        | ok os =>
          obtain ⟨ρ2, b, m2⟩ := b
          obtain ⟨y, a2, rfl⟩ := m2.at h2
          simp only [noX]
          unfold mutR
          cases e2 : g o os with
          | none => trivial
          | some r =>
            refine ⟨ρ2.set i (some (putO x (fz kk) r.1)), ?_, m2.set i rfl⟩
            simp only [e, if_pos c, b, ofN, e2]
            rw [if_pos (by unfold isNo; rw [a2])]
            rfl
      · simp only [if_neg c, O.of]
/-! defs -/
theorem start_mt (k : Nat) : ∀ ds : List PyData, Mt (ds.map (fun d => Ps.ex (.sh d)) ++ List.replicate k .un) (ds.map (fun d => some (OV.sh d)) ++ List.replicate k none)
  | [] => by
    induction k with
    | zero => trivial
    | succ k ih => exact ⟨rfl, ih⟩
  | d :: ds => ⟨rfl, start_mt k ds⟩
theorem j_def {qq : O σ} {ds : List PyData} {m : Nat} (hb : jS body (ds.map (fun d => Ps.ex (.sh d)) ++ List.replicate (m - ds.length) .un) qq st) : match qq.fin with
    | .ok o => runP m body ds = .ok o
    | .exc e => runP m body ds = .exc e
    | .stk => True := by
  have a := hb _ (start_mt _ ds)
  unfold runP
  cases qq with
  | stk => trivial
  | exc e => obtain ⟨ρ', a⟩ := a; simp only [a, O.fin]
  | ret o => obtain ⟨ρ', a⟩ := a; simp only [a, O.fin]
  | next s => obtain ⟨ρ', a, _⟩ := a; simp only [a, O.fin]
end
abbrev gSubI := gII (fun _ _ => true) fun i j => .int (i - j)
abbrev gMulI := gII mulOk fun i j => .int (i * j)
abbrev gModI := gII (fun _ j => decide (0 < j)) fun i j => .int (i % j)
abbrev gDivI := gII divOk fun i j => .int (i / j)
abbrev gPowI := gII powOk fun i j => .int (i ^ j.toNat)
abbrev gShlI := gII shlOk fun i j => .int (i * 2 ^ j.toNat)
abbrev gAndI := gII (fun _ _ => true) fun i j => .int (Builtin.bitAnd i j)
abbrev gOrI := gII (fun _ _ => true) fun i j => .int (Builtin.bitOr i j)
/-! ### plain laws of the direct style -/
section
variable {σ : Type} {ds : List PyData}
theorem forO_nil {f : PyData → σ → O σ} {s : σ} : forO [] f s = .next s := nrfl rfl
theorem forO_cons {f : PyData → σ → O σ} {s : σ} {d : PyData} : forO (d :: ds) f s = (f d s).bind fun s' => forO ds f s' := nrfl rfl
/-- an invariant -/
theorem forO_inv {f : PyData → σ → O σ} (I : Nat → σ → Prop) : ∀ (ds : List PyData) (k : Nat) (s : σ), I k s → (∀ j d s, ds[j]? = some d → I (k + j) s → ∃ s', f d s = .next s' ∧ I (k + j + 1) s') → ∃ s', forO ds f s = .next s' ∧ I (k + ds.length) s'
  | [], k, s, h, _ => ⟨s, rfl, h⟩
  | d :: ds, k, s, h, hs => by
    obtain ⟨s1, e1, h1⟩ := hs 0 d s rfl h
    obtain ⟨s2, e2, h2⟩ := forO_inv I ds (k + 1) s1 h1 fun j d' s hj hi => by
      have := hs (j + 1) d' s (by simpa using hj) (by rw [show k + (j + 1) = k + 1 + j by omega]; exact hi)
      rw [show k + (j + 1) + 1 = k + 1 + j + 1 by omega] at this
      exact this
    refine ⟨s2, ?_, by rw [List.length_cons, show k + (ds.length + 1) = k + 1 + ds.length by omega]; exact h2⟩
    rw [forO_cons, e1]
    exact e2
/-- every turn hands on what it got -/
theorem forO_same {f : PyData → σ → O σ} {s : σ} (h : ∀ d ∈ ds, f d s = .next s) : forO ds f s = .next s := by
  induction ds with
  | nil => rfl
  | cons d ds ih => rw [forO_cons, h d List.mem_cons_self]; exact ih fun d' hd => h d' (List.mem_cons_of_mem _ hd)
/-- a fold -/
theorem forO_fold {α : Type} {f : PyData → σ → O σ} (st : α → σ) (g : α → PyData → α) : ∀ (ds : List PyData) (a : α), (∀ d ∈ ds, ∀ a, f d (st a) = .next (st (g a d))) → forO ds f (st a) = .next (st (ds.foldl g a))
  | [], a, _ => rfl
  | d :: ds, a, h => by
    rw [forO_cons, h d List.mem_cons_self]
    exact forO_fold st g ds _ fun d' hd => h d' (List.mem_cons_of_mem _ hd)
/-- a fold over typed items, with an invariant of the gathered -/
theorem forO_map {α β : Type} {f : PyData → σ → O σ} (e : β → PyData) (st : α → σ) (g : α → β → α) (I : α → Prop) : ∀ (xs : List β) (a : α), I a → (∀ x ∈ xs, ∀ a, I a → f (e x) (st a) = .next (st (g a x)) ∧ I (g a x)) → forO (xs.map e) f (st a) = .next (st (xs.foldl g a)) ∧ I (xs.foldl g a)
  | [], a, h, _ => ⟨rfl, h⟩
  | x :: xs, a, h, hs => by
    obtain ⟨h1, h2⟩ := hs x List.mem_cons_self a h
    rw [List.map_cons, forO_cons, h1]
    exact forO_map e st g I xs _ h2 fun x' hx => hs x' (List.mem_cons_of_mem _ hx)
/-- a search: the first turn that returns -/
theorem forO_search {β : Type} {f : PyData → σ → O σ} {s : σ} (e : β → PyData) (p : β → Bool) (o : β → OV) : ∀ (xs : List β), (∀ x ∈ xs, f (e x) s = if p x = true then .ret (o x) else .next s) → forO (xs.map e) f s = match xs.find? p with
    | some x => .ret (o x)
    | none => .next s
  | [], _ => rfl
  | x :: xs, h => by
    rw [List.map_cons, forO_cons, h x List.mem_cons_self, List.find?_cons]
    cases q : p x with
    | true => rfl
    | false => exact forO_search e p o xs fun x' hx => h x' (List.mem_cons_of_mem _ hx)
/-- a comprehension -/
theorem lcR_map {β : Type} {f : PyData → R (Option OV)} (e : β → PyData) (g : β → OV) : ∀ (xs : List β), (∀ x ∈ xs, f (e x) = .ok (some (g x))) → lcR f (xs.map e) = .ok (xs.map g)
  | [], _ => rfl
  | x :: xs, h => by
    have := lcR_map e g xs fun x' hx => h x' (List.mem_cons_of_mem _ hx)
    rw [List.map_cons, lcR, h x List.mem_cons_self]
    simp only [this, List.map_cons]
theorem lcR_filter {β : Type} {f : PyData → R (Option OV)} (e : β → PyData) (p : β → Bool) (g : β → OV) : ∀ (xs : List β), (∀ x ∈ xs, f (e x) = if p x = true then .ok (some (g x)) else .ok none) → lcR f (xs.map e) = .ok ((xs.filter p).map g)
  | [], _ => rfl
  | x :: xs, h => by
    have := lcR_filter e p g xs fun x' hx => h x' (List.mem_cons_of_mem _ hx)
    rw [List.map_cons, lcR, h x List.mem_cons_self]
    cases q : p x with
    | true => simp only [if_true, this]; rw [List.filter_cons_of_pos q, List.map_cons]
    | false => simp only [Bool.false_eq_true, if_false, this]; rw [List.filter_cons_of_neg (by simp [q])]
theorem szR_ok {α : Type} {n : Nat} {x : α} (h : n ≤ sizeLine) : szR n x = .ok x := if_pos h
theorem upto_eq (n : Nat) : upto 0 n = (List.range n).map fun k => PyData.int ((k : Nat) : Int) := by
  unfold upto
  refine List.map_congr_left fun k _ => ?_
  rw [Int.zero_add]
end
end Ev
namespace Ev
open PySem PySem.Spec L2
open PyProof.Rows hiding St

/-! ### plain laws of the direct style, for the computing sets -/
section
variable {α : Type} {x : α} {n : Nat} {a b c d e f g : PyData} {os : List OV} {ds : List PyData} {o o' : OV} {i j : Int}
theorem szR_lit (h : n ≤ 63) : szR n x = .ok x := szR_ok (Nat.le_trans h (by decide))
theorem szR_le (h : n ≤ sizeLine) : szR n x = .ok x := szR_ok h
theorem mutR_some {g : OV → List OV → Option (OV × OV)} {r : OV × OV} (h : g o os = some r) : mutR g o os = .ok r := by unfold mutR; rw [h]
theorem mutR_app (h : os.length < sizeLine) : mutR mApp (.lst os) [o] = .ok (.lst (os ++ [o]), .sh .none) := mutR_some (mApp_ok h)
theorem ownR_lst : ownR "list" (.lst os) = .ok () := if_pos rfl
theorem ownR_dk {kvs : List (Key × OV)} : ownR "dict" (.dk kvs) = .ok () := if_pos rfl
theorem ownR_dt {kvs : List (List Key × OV)} : ownR "dict" (.dt kvs) = .ok () := if_pos rfl
theorem itR_tup : itR (.sh (.tuple ds)) = .ok ds := by unfold itR; rw [fz_sh]; rfl
theorem itR_list : itR (.sh (.list ds)) = .ok ds := by unfold itR; rw [fz_sh]; rfl
theorem itR_lst : itR (.lst os) = .ok (os.map fz) := by unfold itR; rw [fz_lst]; rfl
theorem unT_l2 : unT 2 (.tuple [a, b]) = .ok [a, b] := nrfl rfl
theorem unT_l3 : unT 3 (.tuple [a, b, c]) = .ok [a, b, c] := nrfl rfl
theorem unT_l4 : unT 4 (.tuple [a, b, c, d]) = .ok [a, b, c, d] := nrfl rfl
theorem unT_l5 : unT 5 (.tuple [a, b, c, d, e]) = .ok [a, b, c, d, e] := nrfl rfl
theorem unT_l6 : unT 6 (.tuple [a, b, c, d, e, f]) = .ok [a, b, c, d, e, f] := nrfl rfl
theorem unT_l7 : unT 7 (.tuple [a, b, c, d, e, f, g]) = .ok [a, b, c, d, e, f, g] := nrfl rfl
theorem unL_l2 : unT 2 (.list [a, b]) = .ok [a, b] := nrfl rfl
theorem unL_l3 : unT 3 (.list [a, b, c]) = .ok [a, b, c] := nrfl rfl
theorem unL_l4 : unT 4 (.list [a, b, c, d]) = .ok [a, b, c, d] := nrfl rfl
theorem unL_l5 : unT 5 (.list [a, b, c, d, e]) = .ok [a, b, c, d, e] := nrfl rfl
theorem unL_l6 : unT 6 (.list [a, b, c, d, e, f]) = .ok [a, b, c, d, e, f] := nrfl rfl
theorem unL_l7 : unT 7 (.list [a, b, c, d, e, f, g]) = .ok [a, b, c, d, e, f, g] := nrfl rfl
theorem par2R_ok : par2R [o, o'] = .ok (o, o') := nrfl rfl
theorem g1_one {h : PyData → Option OV} : g1 h [o] = h (fz o) := nrfl rfl
theorem dInt_b {z : Bool} : dInt (.bool z) = some (.sh (.int (if z = true then 1 else 0))) := nrfl rfl
theorem dInt_i : dInt (.int i) = some (.sh (.int i)) := nrfl rfl
theorem dAbs_i : dAbs (.int i) = some (.sh (.int (if i < 0 then -i else i))) := nrfl rfl
theorem lcR_nil {q : PyData → R (Option OV)} : lcR q [] = .ok [] := nrfl rfl
theorem rng1R_ok (h : rngOk i = true) : rng1R (.sh (.int i)) = .ok (upto 0 i.toNat) := by unfold rng1R; simp only [h, if_true]
theorem rng2R_ok (h : rngOk i = true) (h2 : rngOk j = true) : rng2R [.sh (.int i), .sh (.int j)] = .ok (upto i (j - i).toNat) := by unfold rng2R; simp only [h, h2, Bool.and_self, if_true]
theorem rng1R_n {k : Nat} (h : k ≤ 1000000000) : rng1R (.sh (.int (k : Nat))) = .ok ((List.range k).map fun z => .int ((z : Nat) : Int)) := by
  rw [rng1R_ok (rngOk_of (by omega) (by omega)), Int.toNat_natCast, upto_eq]
end
theorem gAdd_LL {xs ys : List PyData} (h : xs.length + ys.length ≤ sizeLine) : gAdd (.sh (.list xs)) (.sh (.list ys)) = some (.lst ((xs ++ ys).map .sh)) := by
  unfold gAdd
  simp only [fz_sh, h, if_true]
theorem gAdd_Ll {xs : List PyData} {ys : List OV} (h : xs.length + ys.length ≤ sizeLine) : gAdd (.sh (.list xs)) (.lst ys) = some (.lst ((xs ++ ys.map fz).map .sh)) := by
  unfold gAdd
  simp only [fz_sh, fz_lst, List.length_map, h, if_true]
theorem gAdd_lL {xs : List OV} {ys : List PyData} (h : xs.length + ys.length ≤ sizeLine) : gAdd (.lst xs) (.sh (.list ys)) = some (.lst ((xs.map fz ++ ys).map .sh)) := by
  unfold gAdd
  simp only [fz_sh, fz_lst, List.length_map, h, if_true]
theorem gAdd_TT {xs ys : List PyData} (h : xs.length + ys.length ≤ sizeLine) : gAdd (.sh (.tuple xs)) (.sh (.tuple ys)) = some (.sh (.tuple (xs ++ ys))) := by
  unfold gAdd
  simp only [fz_sh, h, if_true]
theorem gEq_bool {neg a b : Bool} : gEq neg (.sh (.bool a)) (.sh (.bool b)) = some (.sh (.bool (neg ^^ decide (a = b)))) := by
  unfold gEq
  simp only [fz_sh, shaped_bool, and_self, if_true, PyData.eqv]
  cases a <;> cases b <;> rfl
/-! truths, gathered -/
theorem rite_and {p : Prop} [Decidable p] {b : Bool} : (if p then R.ok (OV.sh (.bool b)) else R.ok (OV.sh (.bool false))) = R.ok (.sh (.bool (decide p && b))) := by
  by_cases h : p <;> simp [h]
theorem rite_or {p : Prop} [Decidable p] {b : Bool} : (if p then R.ok (OV.sh (.bool true)) else R.ok (OV.sh (.bool b))) = R.ok (.sh (.bool (decide p || b))) := by
  by_cases h : p <;> simp [h]
theorem rb_and {p : Prop} [Decidable p] {b : Bool} : (if p then R.ok b else R.ok false) = R.ok (decide p && b) := by
  by_cases h : p <;> simp [h]
theorem rb_or {p : Prop} [Decidable p] {b : Bool} : (if p then R.ok true else R.ok b) = R.ok (decide p || b) := by
  by_cases h : p <;> simp [h]
/-- a list of shared things -/
abbrev shL {α : Type} (e : α → PyData) (xs : List α) : OV := .lst (xs.map fun x => .sh (e x))
theorem fz_shL {α : Type} {e : α → PyData} {xs : List α} : fz (shL e xs) = .list (xs.map e) := by
  rw [fz_lst, List.map_map]
  exact congrArg _ (List.map_congr_left fun x _ => fz_sh)
theorem map_fz_shL {α : Type} {e : α → PyData} {xs : List α} : (xs.map fun x => OV.sh (e x)).map fz = xs.map e := by
  rw [List.map_map]
  exact List.map_congr_left fun x _ => fz_sh
/-- a loop that appends what f tells of each item -/
theorem forO_gather {σ β γ : Type} {f : PyData → σ → O σ} (e : β → PyData) (en : γ → PyData) (st : OV → σ) (g : β → List γ) (B : Nat) : ∀ (xs : List β) (acc : List γ),
    (∀ x ∈ xs, ∀ a : List γ, a.length + (g x).length ≤ B → f (e x) (st (shL en a)) = .next (st (shL en (a ++ g x)))) → acc.length + (xs.flatMap g).length ≤ B →
    forO (xs.map e) f (st (shL en acc)) = .next (st (shL en (acc ++ xs.flatMap g)))
  | [], acc, _, _ => by simp [forO_nil]
  | x :: xs, acc, h, hB => by
    rw [List.flatMap_cons, List.length_append] at hB
    rw [List.map_cons, forO_cons, h x List.mem_cons_self acc (by omega), O.bind_next]
    have := forO_gather e en st g B xs (acc ++ g x) (fun y hy => h y (List.mem_cons_of_mem _ hy)) (by rw [List.length_append]; omega)
    rw [this, List.flatMap_cons, List.append_assoc]
theorem forO_g0 {β γ : Type} {f : PyData → OV → O OV} (e : β → PyData) (en : γ → PyData) (g : β → List γ) (B : Nat) (xs : List β) (hB : (xs.flatMap g).length ≤ B)
    (h : ∀ x ∈ xs, ∀ a : List γ, a.length + (g x).length ≤ B → f (e x) (shL en a) = .next (shL en (a ++ g x))) : forO (xs.map e) f (.lst []) = .next (shL en (xs.flatMap g)) := by
  exact forO_gather (σ := OV) e en (fun o => o) g B xs [] h (by simpa using hB)
theorem forO_g1 {β γ : Type} {f : PyData → OV → O OV} (e : β → PyData) (en : γ → PyData) (g : β → List γ) (B : Nat) (xs : List β) (acc : List γ) (hB : acc.length + (xs.flatMap g).length ≤ B)
    (h : ∀ x ∈ xs, ∀ a : List γ, a.length + (g x).length ≤ B → f (e x) (shL en a) = .next (shL en (a ++ g x))) : forO (xs.map e) f (shL en acc) = .next (shL en (acc ++ xs.flatMap g)) :=
  forO_gather (σ := OV) e en (fun o => o) g B xs acc h hB
/-- a loop that looks whether all are so -/
theorem forO_all {σ β : Type} {f : PyData → σ → O σ} {s : σ} {o : OV} (e : β → PyData) (p : β → Bool) : ∀ xs : List β, (∀ x ∈ xs, f (e x) s = if p x = true then .next s else .ret o) → forO (xs.map e) f s = if xs.all p = true then .next s else .ret o
  | [], _ => rfl
  | x :: xs, h => by
    rw [List.map_cons, forO_cons, h x List.mem_cons_self, List.all_cons]
    cases q : p x with
    | false => rfl
    | true =>
      rw [if_pos rfl, Bool.true_and, O.bind_next]
      exact forO_all e p xs fun y hy => h y (List.mem_cons_of_mem _ hy)
theorem lcR_each {f : PyData → R (Option OV)} (g : PyData → OV) (xs : List PyData) (h : ∀ x ∈ xs, f x = .ok (some (g x))) : lcR f xs = .ok (xs.map g) := by
  have := lcR_map (f := f) (fun d => d) g xs h
  rwa [List.map_id'] at this
theorem lcR_some {f : PyData → R (Option OV)} (p : PyData → Bool) (g : PyData → OV) (xs : List PyData) (h : ∀ x ∈ xs, f x = if p x = true then .ok (some (g x)) else .ok none) : lcR f xs = .ok ((xs.filter p).map g) := by
  have := lcR_filter (f := f) (fun d => d) p g xs h
  rwa [List.map_id'] at this
theorem app_shL {γ : Type} {en : γ → PyData} {a : List γ} {c : γ} (h : a.length < sizeLine) : mApp (shL en a) [.sh (en c)] = some (shL en (a ++ [c]), .sh .none) := by
  rw [shL, mApp_ok (by rw [List.length_map]; exact h), shL, List.map_append]; rfl
theorem ext_shL {γ : Type} {en : γ → PyData} {a b : List γ} (h : a.length + b.length ≤ sizeLine) : mExt (shL en a) [shL en b] = some (shL en (a ++ b), .sh .none) := by
  unfold mExt
  simp only [List.length_map, h, if_true]
  rw [shL, List.map_append, List.map_map]
  have e : b.map ((fun y => OV.sh (fz y)) ∘ fun x => OV.sh (en x)) = b.map fun x => OV.sh (en x) := List.map_congr_left fun x _ => by simp only [Function.comp, fz_sh]
  rw [e]
end Ev
namespace Ev
open PySem PySem.Spec L2
open PyProof.Rows hiding St

def augR (gg : Int → Int → Int) (x k : OV) (b : Int) : R OV := match intAt x (fz k) with
  | some a => setR x k (.sh (.int (gg a b)))
  | none => .stk
def setR2 (x k c1 l o : OV) : R OV := match setO c1 (fz l) o with
  | some c2 => .ok (putO x (fz k) c2)
  | none => .stk
section
variable {p p1 p2 p3 : Pat} {i : Nat} {x : OV} {f fk fl : Rho → Re} {q qk ql : R OV} {s : Ps} {d0 : PyData} {b : Int} {gg : Int → Int → Int}
theorem js_augIx (h0 : p[i]? = some s) (hs : s.dat = some d0) (hk : jE fk p qk p1) (h1 : p1[i]? = some (.ex x)) : jS (sAugIx i gg fk b) p (O.of (qk.bind fun k => augR gg x k b)) (fun x' => p1.set i (.ex x')) := fun ρ m => by
  obtain ⟨y, a0, b0⟩ := m.at h0
  obtain ⟨y', rfl, _⟩ := Ps.dat_ok hs b0
  have a := hk ρ m
  unfold sAugIx
  rw [if_pos (by unfold isOv; rw [a0])]
  cases qk with
  | stk => trivial
  | exc e => obtain ⟨ρ', a⟩ := a; exact ⟨ρ', by rw [a]; rfl⟩
  | ok k =>
    obtain ⟨ρ1, a, m1⟩ := a
    obtain ⟨y, a1, rfl⟩ := m1.at h1
    simp only [a, bindS, R.bind]
    unfold augR ofAug setR
    rw [a1]
    cases e : intAt x (fz k) with
    | none => trivial
    | some a0 =>
      simp only [e]
      cases e2 : setO x (fz k) (.sh (.int (gg a0 b))) with
      | none => trivial
      | some c => exact ⟨ρ1.set i (some c), by simp only [e2], m1.set i rfl⟩
theorem js_setIx2 (hf : jE f p q p1) (h1 : p1[i]? = some s) (hs : s.dat = some d0) (hk : jE fk p1 qk p2) (h2 : p2[i]? = some (.ex x)) (hl : jE fl (p2.set i .un) ql p3) (h3 : p3[i]? = some .un) :
    jS (sSetIx2 i f fk fl) p (O.of (q.bind fun o => qk.bind fun k => (subR x k).bind fun c => (noX ql).bind fun l => setR2 x k c l o)) (fun x' => p3.set i (.ex x')) := fun ρ m => by
  have a := hf ρ m
  unfold sSetIx2
  cases q with
  | stk => trivial
  | exc e => obtain ⟨ρ', a⟩ := a; exact ⟨ρ', by rw [a]; rfl⟩
  | ok o =>
    obtain ⟨ρ1, a, m1⟩ := a
    obtain ⟨y, a1, b1⟩ := m1.at h1
    obtain ⟨y', rfl, _⟩ := Ps.dat_ok hs b1
    simp only [a, bindS, R.bind]
    rw [if_pos (by unfold isOv; rw [a1])]
    have b := hk ρ1 m1
    cases qk with
    | stk => trivial
    | exc e => obtain ⟨ρ', b⟩ := b; exact ⟨ρ', by rw [b]⟩
    | ok k =>
      obtain ⟨ρ2, b, m2⟩ := b
      obtain ⟨y, a2, rfl⟩ := m2.at h2
      simp only [b]
      rw [a2]
      unfold subR
      cases e : subO x (fz k) with
      | none => trivial
      | some c =>
        simp only [e]
        have d := hl _ (m2.set i (s := .un) (x := none) rfl)
        cases ql with
        | stk => trivial
        | exc e => trivial
        | ok l =>
          obtain ⟨ρ3, d, m3⟩ := d
          obtain ⟨y, a3, rfl⟩ := m3.at h3
          simp only [noX]
          unfold setR2
          cases e2 : setO c (fz l) o with
          | none => trivial
          | some c2 =>
            refine ⟨ρ3.set i (some (putO x (fz k) c2)), ?_, m3.set i rfl⟩
            simp only [d, ofSt2, e2]
            rw [if_pos (by unfold isNo; rw [a3])]
end
end Ev
namespace Ev
theorem js_stk {σ : Type} {p : Pat} {st : σ → Pat} : jS sStk p (.stk : O σ) st := fun _ _ => trivial
theorem js_stkc {σ : Type} {p : Pat} {st : σ → Pat} {g2 : Rho → Out} : jS (sCons sStk g2) p (.stk : O σ) st := fun _ _ => trivial
end Ev
namespace Ev
open PySem PySem.Spec L2
open PyProof.Rows hiding St
def isLR (o : OV) : R Unit := match fz o with
  | .list _ => .ok ()
  | _ => .stk
def idxR (x : OV) (os : List OV) : R OV := match os with
  | [y] => ofOR (gIdx x y)
  | _ => .stk
section
variable {p p1 p2 : Pat} {fa : Rho → Re} {fl : Rho → ReL} {qa : R OV} {ql : R (List OV)}
theorem j_idx (ha : jE fa p qa p1) (hl : jL fl p1 ql p2) : jE (eIdx fa fl) p (qa.bind fun a => (isLR a).bind fun _ => ql.bind fun l => idxR a l) p2 := jE.bind ha fun a ρ m => by
  unfold isLR
  cases e : fz a with
  | list ds =>
    simp only [R.bind]
    have h1 := hl ρ m
    cases ql with
    | stk => trivial
    | exc e => obtain ⟨ρ', b⟩ := h1; exact ⟨ρ', by simp only [b]; rfl⟩
    | ok os =>
      obtain ⟨ρ1, b, m1⟩ := h1
      simp only [b, bindL]
      unfold idxR
      match os with
      | [y] =>
        simp only
        cases gIdx a y with
        | none => trivial
        | some c => exact ⟨ρ1, rfl, m1⟩
      | [] => trivial
      | _ :: _ :: _ => trivial
  | _ => trivial
end
end Ev
namespace Com
open PySem PySem.Spec L2 Ev
open PyProof.Rows hiding St
def b_is_whole : Rho → Out :=
  (sCons (sRet (eAnd (eFn (gIsi "int") (lCons (eV 0) lNil)) (eUn gNot (eFn (gIsi "bool") (lCons (eV 0) lNil)))))
    sNil)
def m_is_whole : List PyData → Rv := runP 1 b_is_whole
def q_is_whole_0 (a1 : PyData) : O Unit :=
  O.bind (O.of (R.bind (R.bind (R.bind (R.ok (.sh a1)) fun e2 => R.bind (R.ok []) fun l3 => .ok (e2 :: l3)) fun l4 => ofOR (gIsi "int" l4)) fun e9 => andR e9 (R.bind (R.bind (R.bind (R.ok (.sh a1)) fun e5 => R.bind (R.ok []) fun l6 => .ok (e5 :: l6)) fun l7 => ofOR (gIsi "bool" l7)) fun e8 => ofOR ((gNot) e8)))) fun o10 => .ret o10
theorem okq_is_whole_0 (a1 : PyData) : jS b_is_whole [.ex (.sh a1)] (q_is_whole_0 a1) (fun _ : Unit => [.no]) := by
  unfold q_is_whole_0 b_is_whole
  exact (js_retc (j_and (j_fn (j_lcons (j_v rfl) j_lnil)) (j_un (j_fn (j_lcons (j_v rfl) j_lnil))) .rf))
def q_is_whole : List PyData → R OV
  | [a1] => O.fin (q_is_whole_0 a1)
  | _ => .stk
theorem okq_is_whole : jP m_is_whole q_is_whole := fun ds => match ds with
  | [a1] => j_def (qq := q_is_whole_0 a1) (okq_is_whole_0 a1)
  | [] => trivial
  | _ :: _ :: _ => trivial
def b_is_side : Rho → Out :=
  (sCons (sRet (eAnd (eCall m_is_whole (lCons (eV 0) lNil)) (eChain gLe gLe (cC (.int 1)) (eV 0) (cC (.int 8)))))
    sNil)
def m_is_side : List PyData → Rv := runP 1 b_is_side
def q_is_side_0 (a1 : PyData) : O Unit :=
  O.bind (O.of (R.bind (R.bind (R.bind (R.ok (.sh a1)) fun e2 => R.bind (R.ok []) fun l3 => .ok (e2 :: l3)) fun l4 => q_is_whole (l4.map fz)) fun e8 => andR e8 (R.bind (R.ok (.sh (.int 1))) fun e5 => R.bind (R.ok (.sh a1)) fun e6 => chR (gLe e5 e6) (R.bind (R.ok (.sh (.int 8))) fun e7 => ofOR (gLe e6 e7))))) fun o9 => .ret o9
theorem okq_is_side_0 (a1 : PyData) : jS b_is_side [.ex (.sh a1)] (q_is_side_0 a1) (fun _ : Unit => [.no]) := by
  unfold q_is_side_0 b_is_side
  exact (js_retc (j_and (j_call okq_is_whole (j_lcons (j_v rfl) j_lnil)) (j_chain j_c (j_v rfl) j_c .rf) .rf))
def q_is_side : List PyData → R OV
  | [a1] => O.fin (q_is_side_0 a1)
  | _ => .stk
theorem okq_is_side : jP m_is_side q_is_side := fun ds => match ds with
  | [a1] => j_def (qq := q_is_side_0 a1) (okq_is_side_0 a1)
  | [] => trivial
  | _ :: _ :: _ => trivial
def b_cells_of : Rho → Out :=
  (sCons (sAsg (hTup 4 (hCons (hName 1) (hCons (hName 2) (hCons (hName 3) (hCons (hName 4) hNil))))) (eV 0))
    (sCons (sIf (eTest (eBin (gEq false) (eV 3) (cC (.str "along")))) (sCons (sRet (eLc [5] (iRange1 (eV 4)) (hName 5) tYesR (eTup (lCons (eV 1) (lCons (eBin gAdd (eV 2) (eV 5)) lNil)))))
    sNil) sNil)
    (sCons (sRet (eLc [5] (iRange1 (eV 4)) (hName 5) tYesR (eTup (lCons (eBin gAdd (eV 1) (eV 5)) (lCons (eV 2) lNil)))))
    sNil)))
def m_cells_of : List PyData → Rv := runP 6 b_cells_of
def q_cells_of_0 (a1 : PyData) : O Unit :=
  O.bind (O.of (R.bind (R.ok (.sh a1)) fun o3 => unT 4 (fz o3))) fun t2 => O.bind (O.bind (O.of (R.bind (R.bind (R.ok (.sh (nd t2 2))) fun e4 => R.bind (R.ok (.sh (.str "along"))) fun e5 => ofOR (gEq false e4 e5)) toBR)) fun b31 => if b31 = true then O.bind (O.of (R.bind (R.bind (R.ok (.sh (nd t2 3))) rng1R) fun z28 => R.bind (lcR (fun x19 => R.bind (R.bind (R.bind (R.ok (.sh (nd t2 0))) fun e24 => R.bind (R.bind (R.bind (R.ok (.sh (nd t2 1))) fun e20 => R.bind (R.ok (.sh x19)) fun e21 => ofOR (gAdd e20 e21)) fun e22 => R.bind (R.ok []) fun l23 => .ok (e22 :: l23)) fun l25 => .ok (e24 :: l25)) fun l26 => szR l26.length (.sh (.tuple (l26.map fz)))) fun o27 => .ok (some o27)) z28) fun l29 => szR l29.length (.lst l29))) fun o30 => .ret o30 else .next ()) fun s18 => O.bind (O.of (R.bind (R.bind (R.ok (.sh (nd t2 3))) rng1R) fun z41 => R.bind (lcR (fun x32 => R.bind (R.bind (R.bind (R.bind (R.ok (.sh (nd t2 0))) fun e33 => R.bind (R.ok (.sh x32)) fun e34 => ofOR (gAdd e33 e34)) fun e37 => R.bind (R.bind (R.ok (.sh (nd t2 1))) fun e35 => R.bind (R.ok []) fun l36 => .ok (e35 :: l36)) fun l38 => .ok (e37 :: l38)) fun l39 => szR l39.length (.sh (.tuple (l39.map fz)))) fun o40 => .ok (some o40)) z41) fun l42 => szR l42.length (.lst l42))) fun o43 => .ret o43
theorem okq_cells_of_0 (a1 : PyData) : jS b_cells_of [.ex (.sh a1), .un, .un, .un, .un, .un] (q_cells_of_0 a1) (fun _ : Unit => [.no, .no, .no, .no, .no, .no]) := by
  unfold q_cells_of_0 b_cells_of
  exact (js_seq (st1 := fun (t2 : List PyData) => [.ex (.sh a1), .ex (.sh (nd t2 0)), .ex (.sh (nd t2 1)), .ex (.sh (nd t2 2)), .ex (.sh (nd t2 3)), .un]) (js_asg (pt := fun _ _ => []) (pt' := fun t2 => [.ex (.sh a1), .ex (.sh (nd t2 0)), .ex (.sh (nd t2 1)), .ex (.sh (nd t2 2)), .ex (.sh (nd t2 3)), .un]) (j_v rfl) fun _ => (jt_tup fun t2 => (jts_cons (by decide) (jts_cons (by decide) (jts_cons (by decide) (jts_cons (by decide) jts_nil)))))) fun t2 => (js_seq (st1 := fun (s18 : Unit) => [.no, .ex (.sh (nd t2 0)), .ex (.sh (nd t2 1)), .no, .ex (.sh (nd t2 3)), .no]) (js_if (j_test (j_bin (j_v rfl) j_c)) (js_retc (j_lc (pc := [.ex (.sh a1), .ex (.sh (nd t2 0)), .ex (.sh (nd t2 1)), .ex (.sh (nd t2 2)), .ex (.sh (nd t2 3)), .no]) (j_irange1 (j_v rfl)) .rf fun x19 => (j_turn1N (j_tup (j_lcons (j_v rfl) (j_lcons (j_bin (j_v rfl) (j_v rfl)) j_lnil))) .rf))) (js_nil (by exact (.no (.eq (.eq (.no (.eq (.no .nil))))))))) fun s18 => (js_retc (j_lc (pc := [.no, .ex (.sh (nd t2 0)), .ex (.sh (nd t2 1)), .no, .ex (.sh (nd t2 3)), .no]) (j_irange1 (j_v rfl)) .rf fun x32 => (j_turn1N (j_tup (j_lcons (j_bin (j_v rfl) (j_v rfl)) (j_lcons (j_v rfl) j_lnil))) .rf)))))
def q_cells_of : List PyData → R OV
  | [a1] => O.fin (q_cells_of_0 a1)
  | _ => .stk
theorem okq_cells_of : jP m_cells_of q_cells_of := fun ds => match ds with
  | [a1] => j_def (qq := q_cells_of_0 a1) (okq_cells_of_0 a1)
  | [] => trivial
  | _ :: _ :: _ => trivial
def b_is_on : Rho → Out :=
  (sCons (sRet (eAnd (eChain gLe gLt (cC (.int 0)) (eBin gSub (eV 1) (cC (.int 0))) (eBin gSub (eV 0) (cC (.int 0)))) (eChain gLe gLt (cC (.int 0)) (eBin gSub (eV 1) (cC (.int 1))) (eBin gSub (eV 0) (cC (.int 1))))))
    sNil)
def m_is_on : List PyData → Rv := runP 2 b_is_on
def q_is_on_0 (a1 : PyData) (a2 : PyData) : O Unit :=
  O.bind (O.of (R.bind (R.bind (R.ok (.sh (.int 0))) fun e7 => R.bind (R.bind (R.ok (.sh a2)) fun e3 => R.bind (R.ok (.sh (.int 0))) fun e4 => ofOR (gSub e3 e4)) fun e8 => chR (gLe e7 e8) (R.bind (R.bind (R.ok (.sh a1)) fun e5 => R.bind (R.ok (.sh (.int 0))) fun e6 => ofOR (gSub e5 e6)) fun e9 => ofOR (gLt e8 e9))) fun e17 => andR e17 (R.bind (R.ok (.sh (.int 0))) fun e14 => R.bind (R.bind (R.ok (.sh a2)) fun e10 => R.bind (R.ok (.sh (.int 1))) fun e11 => ofOR (gSub e10 e11)) fun e15 => chR (gLe e14 e15) (R.bind (R.bind (R.ok (.sh a1)) fun e12 => R.bind (R.ok (.sh (.int 1))) fun e13 => ofOR (gSub e12 e13)) fun e16 => ofOR (gLt e15 e16))))) fun o18 => .ret o18
theorem okq_is_on_0 (a1 : PyData) (a2 : PyData) : jS b_is_on [.ex (.sh a1), .ex (.sh a2)] (q_is_on_0 a1 a2) (fun _ : Unit => [.no, .no]) := by
  unfold q_is_on_0 b_is_on
  exact (js_retc (j_and (j_chain j_c (j_bin (j_v rfl) j_c) (j_bin (j_v rfl) j_c) .rf) (j_chain j_c (j_bin (j_v rfl) j_c) (j_bin (j_v rfl) j_c) .rf) .rf))
def q_is_on : List PyData → R OV
  | [a1, a2] => O.fin (q_is_on_0 a1 a2)
  | _ => .stk
theorem okq_is_on : jP m_is_on q_is_on := fun ds => match ds with
  | [a1, a2] => j_def (qq := q_is_on_0 a1 a2) (okq_is_on_0 a1 a2)
  | [] => trivial
  | [_] => trivial
  | _ :: _ :: _ :: _ => trivial
def b_is_ship : Rho → Out :=
  (sCons (sIf (bOr (bNot (eTest (eFn (gIsi "tuple") (lCons (eV 1) lNil)))) (bOr (eTest (eBin (gEq true) (eFn (g1 dLen) (lCons (eV 1) lNil)) (cC (.int 4)))) (bOr (bNot (eTest (eFn (gIsi "str") (lCons (eBin gSub (eV 1) (cC (.int 2))) lNil)))) (eTest (eBin (gIn true) (eBin gSub (eV 1) (cC (.int 2))) (cC (.tuple [.str "along", .str "down"]))))))) (sCons (sRet (cC (.bool false)))
    sNil) sNil)
    (sCons (sAsg (hTup 4 (hCons (hName 2) (hCons (hName 3) (hCons (hName 4) (hCons (hName 5) hNil))))) (eV 1))
    (sCons (sIf (bOr (bNot (eTest (eCall m_is_whole (lCons (eV 2) lNil)))) (bOr (bNot (eTest (eCall m_is_whole (lCons (eV 3) lNil)))) (bOr (bNot (eTest (eCall m_is_side (lCons (eV 5) lNil)))) (bAnd (eTest (eBin (gEq false) (eV 5) (cC (.int 1)))) (eTest (eBin (gEq false) (eV 4) (cC (.str "down")))))))) (sCons (sRet (cC (.bool false)))
    sNil) sNil)
    (sCons (sRet (eFn (g1 (dAll fun bs => bs.all id)) (lCons (eLc [6] (iVal (eCall m_cells_of (lCons (eV 1) lNil))) (hName 6) tYesR (eCall m_is_on (lCons (eV 0) (lCons (eV 6) lNil)))) lNil)))
    sNil))))
def m_is_ship : List PyData → Rv := runP 7 b_is_ship
def q_is_ship_0 (a1 : PyData) (a2 : PyData) : O Unit :=
  O.bind (O.bind (O.of (R.bind (R.bind (R.bind (R.bind (R.bind (R.ok (.sh a2)) fun e3 => R.bind (R.ok []) fun l4 => .ok (e3 :: l4)) fun l5 => ofOR (gIsi "tuple" l5)) toBR) fun b6 => .ok (!b6)) fun b24 => if b24 = true then .ok true else (R.bind (R.bind (R.bind (R.bind (R.bind (R.ok (.sh a2)) fun e7 => R.bind (R.ok []) fun l8 => .ok (e7 :: l8)) fun l9 => ofOR ((g1 dLen) l9)) fun e10 => R.bind (R.ok (.sh (.int 4))) fun e11 => ofOR (gEq true e10 e11)) toBR) fun b23 => if b23 = true then .ok true else (R.bind (R.bind (R.bind (R.bind (R.bind (R.bind (R.ok (.sh a2)) fun e12 => R.bind (R.ok (.sh (.int 2))) fun e13 => ofOR (gSub e12 e13)) fun e14 => R.bind (R.ok []) fun l15 => .ok (e14 :: l15)) fun l16 => ofOR (gIsi "str" l16)) toBR) fun b17 => .ok (!b17)) fun b22 => if b22 = true then .ok true else (R.bind (R.bind (R.bind (R.ok (.sh a2)) fun e18 => R.bind (R.ok (.sh (.int 2))) fun e19 => ofOR (gSub e18 e19)) fun e20 => R.bind (R.ok (.sh (.tuple [.str "along", .str "down"]))) fun e21 => ofOR (gIn true e20 e21)) toBR))))) fun b28 => if b28 = true then O.bind (O.of (R.ok (.sh (.bool false)))) fun o27 => .ret o27 else .next ()) fun s26 => O.bind (O.of (R.bind (R.ok (.sh a2)) fun o30 => unT 4 (fz o30))) fun t29 => O.bind (O.bind (O.of (R.bind (R.bind (R.bind (R.bind (R.bind (R.ok (.sh (nd t29 0))) fun e31 => R.bind (R.ok []) fun l32 => .ok (e31 :: l32)) fun l33 => q_is_whole (l33.map fz)) toBR) fun b34 => .ok (!b34)) fun b50 => if b50 = true then .ok true else (R.bind (R.bind (R.bind (R.bind (R.bind (R.ok (.sh (nd t29 1))) fun e35 => R.bind (R.ok []) fun l36 => .ok (e35 :: l36)) fun l37 => q_is_whole (l37.map fz)) toBR) fun b38 => .ok (!b38)) fun b49 => if b49 = true then .ok true else (R.bind (R.bind (R.bind (R.bind (R.bind (R.ok (.sh (nd t29 3))) fun e39 => R.bind (R.ok []) fun l40 => .ok (e39 :: l40)) fun l41 => q_is_side (l41.map fz)) toBR) fun b42 => .ok (!b42)) fun b48 => if b48 = true then .ok true else (R.bind (R.bind (R.bind (R.ok (.sh (nd t29 3))) fun e43 => R.bind (R.ok (.sh (.int 1))) fun e44 => ofOR (gEq false e43 e44)) toBR) fun b47 => if b47 = true then (R.bind (R.bind (R.ok (.sh (nd t29 2))) fun e45 => R.bind (R.ok (.sh (.str "down"))) fun e46 => ofOR (gEq false e45 e46)) toBR) else .ok false))))) fun b54 => if b54 = true then O.bind (O.of (R.ok (.sh (.bool false)))) fun o53 => .ret o53 else .next ()) fun s52 => O.bind (O.of (R.bind (R.bind (R.bind (R.bind (R.bind (R.bind (R.ok (.sh a2)) fun e55 => R.bind (R.ok []) fun l56 => .ok (e55 :: l56)) fun l57 => q_cells_of (l57.map fz)) itR) fun z65 => R.bind (lcR (fun x58 => R.bind (R.bind (R.bind (R.ok (.sh a1)) fun e61 => R.bind (R.bind (R.ok (.sh x58)) fun e59 => R.bind (R.ok []) fun l60 => .ok (e59 :: l60)) fun l62 => .ok (e61 :: l62)) fun l63 => q_is_on (l63.map fz)) fun o64 => .ok (some o64)) z65) fun l66 => szR l66.length (.lst l66)) fun e67 => R.bind (R.ok []) fun l68 => .ok (e67 :: l68)) fun l69 => ofOR ((g1 (dAll fun bs => bs.all id)) l69))) fun o70 => .ret o70
theorem okq_is_ship_0 (a1 : PyData) (a2 : PyData) : jS b_is_ship [.ex (.sh a1), .ex (.sh a2), .un, .un, .un, .un, .un] (q_is_ship_0 a1 a2) (fun _ : Unit => [.no, .no, .no, .no, .no, .no, .no]) := by
  unfold q_is_ship_0 b_is_ship
  exact (js_seq (st1 := fun (s26 : Unit) => [.ex (.sh a1), .ex (.sh a2), .no, .no, .no, .no, .no]) (js_if (j_bor (j_not (j_test (j_fn (j_lcons (j_v rfl) j_lnil)))) (j_bor (j_test (j_bin (j_fn (j_lcons (j_v rfl) j_lnil)) j_c)) (j_bor (j_not (j_test (j_fn (j_lcons (j_bin (j_v rfl) j_c) j_lnil)))) (j_test (j_bin (j_bin (j_v rfl) j_c) j_c)) .rf) .rf) .rf) (js_retc j_c) (js_nil (by exact (.eq (.eq (.no (.no (.no (.no (.no .nil)))))))))) fun s26 => (js_seq (st1 := fun (t29 : List PyData) => [.ex (.sh a1), .ex (.sh a2), .ex (.sh (nd t29 0)), .ex (.sh (nd t29 1)), .ex (.sh (nd t29 2)), .ex (.sh (nd t29 3)), .no]) (js_asg (pt := fun _ _ => []) (pt' := fun t29 => [.ex (.sh a1), .ex (.sh a2), .ex (.sh (nd t29 0)), .ex (.sh (nd t29 1)), .ex (.sh (nd t29 2)), .ex (.sh (nd t29 3)), .no]) (j_v rfl) fun _ => (jt_tup fun t29 => (jts_cons (by decide) (jts_cons (by decide) (jts_cons (by decide) (jts_cons (by decide) jts_nil)))))) fun t29 => (js_seq (st1 := fun (s52 : Unit) => [.ex (.sh a1), .ex (.sh a2), .no, .no, .no, .no, .no]) (js_if (j_bor (j_not (j_test (j_call okq_is_whole (j_lcons (j_v rfl) j_lnil)))) (j_bor (j_not (j_test (j_call okq_is_whole (j_lcons (j_v rfl) j_lnil)))) (j_bor (j_not (j_test (j_call okq_is_side (j_lcons (j_v rfl) j_lnil)))) (j_band (j_test (j_bin (j_v rfl) j_c)) (j_test (j_bin (j_v rfl) j_c)) .rf) .rf) .rf) .rf) (js_retc j_c) (js_nil (by exact (.eq (.eq (.no (.no (.no (.no (.eq .nil)))))))))) fun s52 => (js_retc (j_fn (j_lcons (j_lc (pc := [.ex (.sh a1), .ex (.sh a2), .no, .no, .no, .no, .no]) (j_ival (j_call okq_cells_of (j_lcons (j_v rfl) j_lnil))) .rf fun x58 => (j_turn1N (j_call okq_is_on (j_lcons (j_v rfl) (j_lcons (j_v rfl) j_lnil))) .rf)) j_lnil))))))
def q_is_ship : List PyData → R OV
  | [a1, a2] => O.fin (q_is_ship_0 a1 a2)
  | _ => .stk
theorem okq_is_ship : jP m_is_ship q_is_ship := fun ds => match ds with
  | [a1, a2] => j_def (qq := q_is_ship_0 a1 a2) (okq_is_ship_0 a1 a2)
  | [] => trivial
  | [_] => trivial
  | _ :: _ :: _ :: _ => trivial
def b_is_fleet : Rho → Out :=
  (sCons (sIf (bOr (bNot (eTest (eFn (gIsi "tuple") (lCons (eV 0) lNil)))) (bOr (bNot (eTest (eChain gLe gLe (cC (.int 1)) (eFn (g1 dLen) (lCons (eV 0) lNil)) (cC (.int 4))))) (bNot (eTest (eFn (g1 (dAll fun bs => bs.all id)) (lCons (eLc [1] (iVal (eV 0)) (hName 1) tYesR (eCall m_is_side (lCons (eV 1) lNil))) lNil)))))) (sCons (sRet (cC (.bool false)))
    sNil) sNil)
    (sCons (sRet (eFn (g1 (dAll fun bs => bs.all id)) (lCons (eLc [2, 3] (iZip (lCons (eV 0) (lCons (eSl (eV 0) (some (cC (.int 1))) none) lNil))) (hTup 2 (hCons (hName 2) (hCons (hName 3) hNil))) tYesR (eBin (gGe) (eV 2) (eV 3))) lNil)))
    sNil))
def m_is_fleet : List PyData → Rv := runP 4 b_is_fleet
def q_is_fleet_0 (a1 : PyData) : O Unit :=
  O.bind (O.bind (O.of (R.bind (R.bind (R.bind (R.bind (R.bind (R.ok (.sh a1)) fun e2 => R.bind (R.ok []) fun l3 => .ok (e2 :: l3)) fun l4 => ofOR (gIsi "tuple" l4)) toBR) fun b5 => .ok (!b5)) fun b25 => if b25 = true then .ok true else (R.bind (R.bind (R.bind (R.bind (R.ok (.sh (.int 1))) fun e9 => R.bind (R.bind (R.bind (R.ok (.sh a1)) fun e6 => R.bind (R.ok []) fun l7 => .ok (e6 :: l7)) fun l8 => ofOR ((g1 dLen) l8)) fun e10 => chR (gLe e9 e10) (R.bind (R.ok (.sh (.int 4))) fun e11 => ofOR (gLe e10 e11))) toBR) fun b12 => .ok (!b12)) fun b24 => if b24 = true then .ok true else (R.bind (R.bind (R.bind (R.bind (R.bind (R.bind (R.ok (.sh a1)) itR) fun z18 => R.bind (lcR (fun x13 => R.bind (R.bind (R.bind (R.ok (.sh x13)) fun e14 => R.bind (R.ok []) fun l15 => .ok (e14 :: l15)) fun l16 => q_is_side (l16.map fz)) fun o17 => .ok (some o17)) z18) fun l19 => szR l19.length (.lst l19)) fun e20 => R.bind (R.ok []) fun l21 => .ok (e20 :: l21)) fun l22 => ofOR ((g1 (dAll fun bs => bs.all id)) l22)) toBR) fun b23 => .ok (!b23))))) fun b29 => if b29 = true then O.bind (O.of (R.ok (.sh (.bool false)))) fun o28 => .ret o28 else .next ()) fun s27 => O.bind (O.of (R.bind (R.bind (R.bind (R.bind (R.bind (R.ok (.sh a1)) fun e37 => R.bind (R.bind (R.bind (R.ok (.sh a1)) fun e32 => R.bind (R.bind (R.ok (.sh (.int 1))) fun e30 => R.bind (iR e30) fun i31 => .ok (some i31)) fun i33 => R.bind (R.ok none) fun i34 => ofOR (gSl e32 i33 i34)) fun e35 => R.bind (R.ok []) fun l36 => .ok (e35 :: l36)) fun l38 => .ok (e37 :: l38)) zipR) fun z44 => R.bind (lcR (fun x39 => R.bind (unT 2 (fz (.sh x39))) fun t40 => R.bind (R.bind (R.ok (.sh (nd t40 0))) fun e41 => R.bind (R.ok (.sh (nd t40 1))) fun e42 => ofOR (gGe e41 e42)) fun o43 => .ok (some o43)) z44) fun l45 => szR l45.length (.lst l45)) fun e46 => R.bind (R.ok []) fun l47 => .ok (e46 :: l47)) fun l48 => ofOR ((g1 (dAll fun bs => bs.all id)) l48))) fun o49 => .ret o49
theorem okq_is_fleet_0 (a1 : PyData) : jS b_is_fleet [.ex (.sh a1), .un, .un, .un] (q_is_fleet_0 a1) (fun _ : Unit => [.no, .no, .no, .no]) := by
  unfold q_is_fleet_0 b_is_fleet
  exact (js_seq (st1 := fun (s27 : Unit) => [.ex (.sh a1), .no, .no, .no]) (js_if (j_bor (j_not (j_test (j_fn (j_lcons (j_v rfl) j_lnil)))) (j_bor (j_not (j_test (j_chain j_c (j_fn (j_lcons (j_v rfl) j_lnil)) j_c .rf))) (j_not (j_test (j_fn (j_lcons (j_lc (pc := [.ex (.sh a1), .no, .un, .un]) (j_ival (j_v rfl)) .rf fun x13 => (j_turn1N (j_call okq_is_side (j_lcons (j_v rfl) j_lnil)) .rf)) j_lnil)))) (by exact (.eq (.no (.eq (.eq .nil)))))) (by exact (.eq (.no (.eq (.eq .nil)))))) (js_retc j_c) (js_nil (by exact (.eq (.eq (.no (.no .nil))))))) fun s27 => (js_retc (j_fn (j_lcons (j_lc (pc := [.ex (.sh a1), .no, .no, .no]) (j_izip (j_lcons (j_v rfl) (j_lcons (j_sl (j_v rfl) (j_osome j_c) j_ono) j_lnil))) .rf fun x39 => (j_turn1 (pt := fun t40 => [.ex (.sh a1), .no, .ex (.sh (nd t40 0)), .ex (.sh (nd t40 1))]) (jt_tup fun t40 => (jts_cons (by decide) (jts_cons (by decide) jts_nil))) (fun t40 => (j_bin (j_v rfl) (j_v rfl))) (fun t40 => .rf))) j_lnil))))
def q_is_fleet : List PyData → R OV
  | [a1] => O.fin (q_is_fleet_0 a1)
  | _ => .stk
theorem okq_is_fleet : jP m_is_fleet q_is_fleet := fun ds => match ds with
  | [a1] => j_def (qq := q_is_fleet_0 a1) (okq_is_fleet_0 a1)
  | [] => trivial
  | _ :: _ :: _ => trivial
def b__law_stir : Rho → Out :=
  (sCons (sSet 2 (eMul (eBin gAdd (eBin gAdd (eMod (eV 0) (ePow (cC (.int 10)) (cC (.int 60)))) (eMul (cC (.int 7919)) (eV 1))) (cC (.int 1))) (cC (.int 27182818284590452353602874713527))))
    (sCons (sSet 2 (eMod (eV 2) (cC (.int 170141183460469231731687303715884105727))))
    (sCons (sRet (eFdiv (eMod (ePow (eBin gAdd (ePow (eV 2) (cC (.int 5))) (eMul (cC (.int 48271)) (eV 1))) (cC (.int 3))) (cC (.int 162259276829213363391578010288127))) (cC (.int 7))))
    sNil)))
def m__law_stir : List PyData → Rv := runP 3 b__law_stir
def q__law_stir_0 (a1 : PyData) (a2 : PyData) : O Unit :=
  O.bind (O.of (R.bind (R.bind (R.bind (R.bind (R.ok (.sh a1)) fun e5 => R.bind (R.bind (R.ok (.sh (.int 10))) fun e3 => R.bind (R.ok (.sh (.int 60))) fun e4 => ofOR (gPowI e3 e4)) fun e6 => ofOR (gModI e5 e6)) fun e9 => R.bind (R.bind (R.ok (.sh (.int 7919))) fun e7 => R.bind (R.ok (.sh a2)) fun e8 => ofOR (gMulI e7 e8)) fun e10 => ofOR (gAdd e9 e10)) fun e11 => R.bind (R.ok (.sh (.int 1))) fun e12 => ofOR (gAdd e11 e12)) fun e13 => R.bind (R.ok (.sh (.int 27182818284590452353602874713527))) fun e14 => ofOR (gMulI e13 e14))) fun v15 => O.bind (O.of (R.bind (R.ok (.sh (fz v15))) fun e16 => R.bind (R.ok (.sh (.int 170141183460469231731687303715884105727))) fun e17 => ofOR (gModI e16 e17))) fun v18 => O.bind (O.of (R.bind (R.bind (R.bind (R.bind (R.bind (R.ok (.sh (fz v18))) fun e19 => R.bind (R.ok (.sh (.int 5))) fun e20 => ofOR (gPowI e19 e20)) fun e23 => R.bind (R.bind (R.ok (.sh (.int 48271))) fun e21 => R.bind (R.ok (.sh a2)) fun e22 => ofOR (gMulI e21 e22)) fun e24 => ofOR (gAdd e23 e24)) fun e25 => R.bind (R.ok (.sh (.int 3))) fun e26 => ofOR (gPowI e25 e26)) fun e27 => R.bind (R.ok (.sh (.int 162259276829213363391578010288127))) fun e28 => ofOR (gModI e27 e28)) fun e29 => R.bind (R.ok (.sh (.int 7))) fun e30 => ofOR (gDivI e29 e30))) fun o31 => .ret o31
theorem okq__law_stir_0 (a1 : PyData) (a2 : PyData) : jS b__law_stir [.ex (.sh a1), .ex (.sh a2), .un] (q__law_stir_0 a1 a2) (fun _ : Unit => [.no, .no, .no]) := by
  unfold q__law_stir_0 b__law_stir
  exact (js_seq (st1 := fun (v15 : OV) => [.ex (.sh a1), .ex (.sh a2), .ex v15]) (js_set (j_bin (j_bin (j_bin (j_bin (j_v rfl) (j_bin j_c j_c)) (j_bin j_c (j_v rfl))) j_c) j_c)) fun v15 => (js_seq (st1 := fun (v18 : OV) => [.ex (.sh a1), .ex (.sh a2), .ex v18]) (js_set (j_bin (j_vx rfl) j_c)) fun v18 => (js_retc (j_bin (j_bin (j_bin (j_bin (j_bin (j_vx rfl) j_c) (j_bin j_c (j_v rfl))) j_c) j_c) j_c))))
def q__law_stir : List PyData → R OV
  | [a1, a2] => O.fin (q__law_stir_0 a1 a2)
  | _ => .stk
theorem okq__law_stir : jP m__law_stir q__law_stir := fun ds => match ds with
  | [a1, a2] => j_def (qq := q__law_stir_0 a1 a2) (okq__law_stir_0 a1 a2)
  | [] => trivial
  | [_] => trivial
  | _ :: _ :: _ :: _ => trivial
def b__law_drawn_1 : Rho → Out :=
  (sCons (sIf (bOr (eTest (eBin (gLt) (eV 0) (ePow (cC (.int 10)) (cC (.int 18))))) (eTest (eBin (gEq false) (eV 3) (cC (.int 0))))) (sCons (sExpr (eMut 2 "list" mApp (lCons (eMod (eCall m__law_stir (lCons (eV 0) (lCons (eV 4) lNil))) (eBin gSub (eV 1) (eV 4))) lNil)))
    sNil) (sCons (sExpr (eMut 2 "list" mApp (lCons (eMod (eV 3) (eBin gSub (eV 1) (eV 4))) lNil)))
    (sCons (sSet 3 (eFdiv (eV 3) (eBin gSub (eV 1) (eV 4))))
    sNil)))
    sNil)
def b__law_drawn : Rho → Out :=
  (sCons (sSet 2 (eLst lNil))
    (sCons (sSet 3 (eV 0))
    (sCons (sFor [4] (iRange1 (eFn (g1 dLen) (lCons (eV 1) lNil))) (hName 4) b__law_drawn_1)
    (sCons (sRet (eM 2))
    sNil))))
def m__law_drawn : List PyData → Rv := runP 5 b__law_drawn
def q__law_drawn_1 (a1 : PyData) (a2 : PyData) (x77 : PyData) (s76 : OV × PyData) : O (OV × PyData) :=
  O.bind (O.bind (O.of (R.bind (R.bind (R.bind (R.ok (.sh a1)) fun e145 => R.bind (R.bind (R.ok (.sh (.int 10))) fun e143 => R.bind (R.ok (.sh (.int 18))) fun e144 => ofOR (gPowI e143 e144)) fun e146 => ofOR (gLt e145 e146)) toBR) fun b149 => if b149 = true then .ok true else (R.bind (R.bind (R.ok (.sh s76.2)) fun e147 => R.bind (R.ok (.sh (.int 0))) fun e148 => ofOR (gEq false e147 e148)) toBR))) fun b207 => if b207 = true then O.bind (O.of (R.bind (ownR "list" s76.1) fun _ => R.bind (R.bind (R.bind (R.bind (R.bind (R.ok (.sh a1)) fun e181 => R.bind (R.bind (R.ok (.sh x77)) fun e179 => R.bind (R.ok []) fun l180 => .ok (e179 :: l180)) fun l182 => .ok (e181 :: l182)) fun l183 => q__law_stir (l183.map fz)) fun e186 => R.bind (R.bind (R.ok (.sh a2)) fun e184 => R.bind (R.ok (.sh x77)) fun e185 => ofOR (gSub e184 e185)) fun e187 => ofOR (gModI e186 e187)) fun e188 => R.bind (R.ok []) fun l189 => .ok (e188 :: l189)) fun l191 => R.bind (mutR mApp s76.1 l191) fun r192 => .ok r192.1)) fun v190 => .next (v190, s76.2) else O.bind (O.of (R.bind (ownR "list" s76.1) fun _ => R.bind (R.bind (R.bind (R.ok (.sh s76.2)) fun e195 => R.bind (R.bind (R.ok (.sh a2)) fun e193 => R.bind (R.ok (.sh x77)) fun e194 => ofOR (gSub e193 e194)) fun e196 => ofOR (gModI e195 e196)) fun e197 => R.bind (R.ok []) fun l198 => .ok (e197 :: l198)) fun l200 => R.bind (mutR mApp s76.1 l200) fun r201 => .ok r201.1)) fun v199 => O.bind (O.of (R.bind (R.ok (.sh s76.2)) fun e204 => R.bind (R.bind (R.ok (.sh a2)) fun e202 => R.bind (R.ok (.sh x77)) fun e203 => ofOR (gSub e202 e203)) fun e205 => ofOR (gDivI e204 e205))) fun v206 => .next (v199, (fz v206))) fun s178 => .next (s178.1, s178.2)
theorem okq__law_drawn_1 (a1 : PyData) (a2 : PyData) (x77 : PyData) (s76 : OV × PyData) : jS b__law_drawn_1 [.ex (.sh a1), .ex (.sh a2), .ex s76.1, .fr s76.2, .ex (.sh x77)] (q__law_drawn_1 a1 a2 x77 s76) (fun (s76 : OV × PyData) => [.ex (.sh a1), .ex (.sh a2), .ex s76.1, .fr s76.2, .no]) := by
  unfold q__law_drawn_1 b__law_drawn_1
  exact (js_seq (st1 := fun (s178 : OV × PyData) => [.ex (.sh a1), .ex (.sh a2), .ex s178.1, .fr s178.2, .no]) (js_if (j_bor (j_test (j_bin (j_v rfl) (j_bin j_c j_c))) (j_test (j_bin (j_vf rfl) j_c)) .rf) (js_seq (st1 := fun (v190 : OV) => [.ex (.sh a1), .ex (.sh a2), .ex v190, .fr s76.2, .ex (.sh x77)]) (js_mut rfl (j_lcons (j_bin (j_call okq__law_stir (j_lcons (j_v rfl) (j_lcons (j_v rfl) j_lnil))) (j_bin (j_v rfl) (j_v rfl))) j_lnil) rfl) fun v190 => (js_nil (by exact (.eq (.eq (.eq (.eq (.no .nil)))))))) (js_seq (st1 := fun (v199 : OV) => [.ex (.sh a1), .ex (.sh a2), .ex v199, .fr s76.2, .ex (.sh x77)]) (js_mut rfl (j_lcons (j_bin (j_vf rfl) (j_bin (j_v rfl) (j_v rfl))) j_lnil) rfl) fun v199 => (js_seq (st1 := fun (v206 : OV) => [.ex (.sh a1), .ex (.sh a2), .ex v199, .ex v206, .ex (.sh x77)]) (js_set (j_bin (j_vf rfl) (j_bin (j_v rfl) (j_v rfl)))) fun v206 => (js_nil (by exact (.eq (.eq (.eq (.fr (.no .nil)))))))))) fun s178 => (js_nil .rf))
def q__law_drawn_0 (a1 : PyData) (a2 : PyData) : O Unit :=
  O.bind (O.of (R.bind (R.ok []) fun l3 => szR l3.length (.lst l3))) fun v4 => O.bind (O.of (R.ok (.sh a1))) fun v5 => O.bind (O.bind (O.of (R.bind (R.bind (R.bind (R.ok (.sh a2)) fun e6 => R.bind (R.ok []) fun l7 => .ok (e6 :: l7)) fun l8 => ofOR ((g1 dLen) l8)) rng1R)) fun z208 => forO z208 (fun x77 s76 => q__law_drawn_1 a1 a2 x77 s76) (v4, (fz v5))) fun s209 => O.bind (O.of (R.ok s209.1)) fun o210 => .ret o210
theorem okq__law_drawn_0 (a1 : PyData) (a2 : PyData) : jS b__law_drawn [.ex (.sh a1), .ex (.sh a2), .un, .un, .un] (q__law_drawn_0 a1 a2) (fun _ : Unit => [.no, .no, .no, .no, .no]) := by
  unfold q__law_drawn_0 b__law_drawn
  exact (js_seq (st1 := fun (v4 : OV) => [.ex (.sh a1), .ex (.sh a2), .ex v4, .un, .un]) (js_set (j_lst j_lnil)) fun v4 => (js_seq (st1 := fun (v5 : OV) => [.ex (.sh a1), .ex (.sh a2), .ex v4, .ex v5, .un]) (js_set (j_v rfl)) fun v5 => (js_seq (st1 := fun (s209 : OV × PyData) => [.ex (.sh a1), .ex (.sh a2), .ex s209.1, .fr s209.2, .no]) (js_forN (st := fun (s76 : OV × PyData) => [.ex (.sh a1), .ex (.sh a2), .ex s76.1, .fr s76.2, .no]) (j_irange1 (j_fn (j_lcons (j_v rfl) j_lnil))) (by exact (.eq (.eq (.eq (.fr (.eq .nil)))))) (fun x77 s76 => okq__law_drawn_1 a1 a2 x77 s76) (fun _ => rfl)) fun s209 => (js_retc (j_m rfl)))))
def q__law_drawn : List PyData → R OV
  | [a1, a2] => O.fin (q__law_drawn_0 a1 a2)
  | _ => .stk
theorem okq__law_drawn : jP m__law_drawn q__law_drawn := fun ds => match ds with
  | [a1, a2] => j_def (qq := q__law_drawn_0 a1 a2) (okq__law_drawn_0 a1 a2)
  | [] => trivial
  | [_] => trivial
  | _ :: _ :: _ :: _ => trivial
def b__law_odd : Rho → Out :=
  (sCons (sAsg (hTup 3 (hCons (hName 1) (hCons (hName 2) (hCons (hName 3) hNil)))) (eCall m__law_drawn (lCons (eV 0) (lCons (eLst (lCons (cC (.int 19)) (lCons (cC (.int 40)) (lCons (cC (.int 7)) lNil)))) lNil))))
    (sCons (sSet 4 (eLst (lCons (cC (.int 0)) (lCons (eNeg (cC (.int 1))) (lCons (cC (.int 1)) (lCons (eV 2) (lCons (cC (.int 8)) (lCons (cC (.int 9)) (lCons (cC (.bool true)) (lCons (cC (.bool false)) (lCons (cC .none) (lCons (cC (.str "")) (lCons (cC (.str "a1")) (lCons (cC (.str "water")) (lCons (cC (.str "along")) (lCons (ePow (cC (.int 10)) (cC (.int 39))) (lCons (eSub (cC (.int 0)) (ePow (cC (.int 10)) (cC (.int 20)))) lNil)))))))))))))))))
    (sCons (sIf (eTest (eBin (gLt) (eV 1) (cC (.int 15)))) (sCons (sRet (eBin gSub (eV 4) (eV 1)))
    sNil) sNil)
    (sCons (sSet 5 (eLc [6] (iRange1 (eV 3)) (hName 6) tYesR (eBin gSub (eV 4) (eMod (eBin gAdd (eV 2) (eMul (eV 6) (eV 6))) (cC (.int 15))))))
    (sCons (sIf (eTest (eBin (gGt) (eV 3) (cC (.int 3)))) (sCons (sSet 5 (eLst (lCons (eFn (g1 dTuple) (lCons (eSl (eV 5) none (some (cC (.int 2)))) lNil)) (lCons (eFn (g1 dList) (lCons (eSl (eV 5) (some (cC (.int 2))) none) lNil)) (lCons (eBin gSub (eV 5) (cC (.int 0))) lNil)))))
    sNil) sNil)
    (sCons (sRet (eBin gSub (eLst (lCons (eFn (g1 dTuple) (lCons (eV 5) lNil)) (lCons (eV 5) (lCons (eTup (lCons (eV 5) (lCons (eFn (g1 dTuple) (lCons (eV 5) lNil)) lNil))) (lCons (eFn (g1 dTuple) (lCons (eSl (eV 5) none (some (cC (.int 2)))) lNil)) lNil))))) (eSub (eV 1) (cC (.int 15)))))
    sNil))))))
def m__law_odd : List PyData → Rv := runP 7 b__law_odd
def q__law_odd_0 (a1 : PyData) : O Unit :=
  O.bind (O.of (R.bind (R.bind (R.bind (R.ok (.sh a1)) fun e11 => R.bind (R.bind (R.bind (R.bind (R.ok (.sh (.int 19))) fun e6 => R.bind (R.bind (R.ok (.sh (.int 40))) fun e4 => R.bind (R.bind (R.ok (.sh (.int 7))) fun e2 => R.bind (R.ok []) fun l3 => .ok (e2 :: l3)) fun l5 => .ok (e4 :: l5)) fun l7 => .ok (e6 :: l7)) fun l8 => szR l8.length (.lst l8)) fun e9 => R.bind (R.ok []) fun l10 => .ok (e9 :: l10)) fun l12 => .ok (e11 :: l12)) fun l13 => q__law_drawn (l13.map fz)) fun o15 => unT 3 (fz o15))) fun t14 => O.bind (O.of (R.bind (R.bind (R.ok (.sh (.int 0))) fun e51 => R.bind (R.bind (R.bind (R.ok (.sh (.int 1))) fun e16 => ofOR ((gI fun i => .int (-i)) e16)) fun e49 => R.bind (R.bind (R.ok (.sh (.int 1))) fun e47 => R.bind (R.bind (R.ok (.sh (nd t14 1))) fun e45 => R.bind (R.bind (R.ok (.sh (.int 8))) fun e43 => R.bind (R.bind (R.ok (.sh (.int 9))) fun e41 => R.bind (R.bind (R.ok (.sh (.bool true))) fun e39 => R.bind (R.bind (R.ok (.sh (.bool false))) fun e37 => R.bind (R.bind (R.ok (.sh .none)) fun e35 => R.bind (R.bind (R.ok (.sh (.str ""))) fun e33 => R.bind (R.bind (R.ok (.sh (.str "a1"))) fun e31 => R.bind (R.bind (R.ok (.sh (.str "water"))) fun e29 => R.bind (R.bind (R.ok (.sh (.str "along"))) fun e27 => R.bind (R.bind (R.bind (R.ok (.sh (.int 10))) fun e17 => R.bind (R.ok (.sh (.int 39))) fun e18 => ofOR (gPowI e17 e18)) fun e25 => R.bind (R.bind (R.bind (R.ok (.sh (.int 0))) fun e21 => R.bind (R.bind (R.ok (.sh (.int 10))) fun e19 => R.bind (R.ok (.sh (.int 20))) fun e20 => ofOR (gPowI e19 e20)) fun e22 => ofOR (gSubI e21 e22)) fun e23 => R.bind (R.ok []) fun l24 => .ok (e23 :: l24)) fun l26 => .ok (e25 :: l26)) fun l28 => .ok (e27 :: l28)) fun l30 => .ok (e29 :: l30)) fun l32 => .ok (e31 :: l32)) fun l34 => .ok (e33 :: l34)) fun l36 => .ok (e35 :: l36)) fun l38 => .ok (e37 :: l38)) fun l40 => .ok (e39 :: l40)) fun l42 => .ok (e41 :: l42)) fun l44 => .ok (e43 :: l44)) fun l46 => .ok (e45 :: l46)) fun l48 => .ok (e47 :: l48)) fun l50 => .ok (e49 :: l50)) fun l52 => .ok (e51 :: l52)) fun l53 => szR l53.length (.lst l53))) fun v54 => O.bind (O.bind (O.of (R.bind (R.bind (R.ok (.sh (nd t14 0))) fun e55 => R.bind (R.ok (.sh (.int 15))) fun e56 => ofOR (gLt e55 e56)) toBR)) fun b64 => if b64 = true then O.bind (O.of (R.bind (R.ok (.sh (fz v54))) fun e61 => R.bind (R.ok (.sh (nd t14 0))) fun e62 => ofOR (gSub e61 e62))) fun o63 => .ret o63 else .next ()) fun s60 => O.bind (O.of (R.bind (R.bind (R.ok (.sh (nd t14 2))) rng1R) fun z84 => R.bind (lcR (fun x74 => R.bind (R.bind (R.ok (.sh (fz v54))) fun e81 => R.bind (R.bind (R.bind (R.ok (.sh (nd t14 1))) fun e77 => R.bind (R.bind (R.ok (.sh x74)) fun e75 => R.bind (R.ok (.sh x74)) fun e76 => ofOR (gMulI e75 e76)) fun e78 => ofOR (gAdd e77 e78)) fun e79 => R.bind (R.ok (.sh (.int 15))) fun e80 => ofOR (gModI e79 e80)) fun e82 => ofOR (gSub e81 e82)) fun o83 => .ok (some o83)) z84) fun l85 => szR l85.length (.lst l85))) fun v86 => O.bind (O.bind (O.of (R.bind (R.bind (R.ok (.sh (nd t14 2))) fun e87 => R.bind (R.ok (.sh (.int 3))) fun e88 => ofOR (gGt e87 e88)) toBR)) fun b142 => if b142 = true then O.bind (O.of (R.bind (R.bind (R.bind (R.bind (R.bind (R.ok (.sh (fz v86))) fun e118 => R.bind (R.ok none) fun i119 => R.bind (R.bind (R.ok (.sh (.int 2))) fun e116 => R.bind (iR e116) fun i117 => .ok (some i117)) fun i120 => ofOR (gSl e118 i119 i120)) fun e121 => R.bind (R.ok []) fun l122 => .ok (e121 :: l122)) fun l123 => ofOR ((g1 dTuple) l123)) fun e138 => R.bind (R.bind (R.bind (R.bind (R.bind (R.ok (.sh (fz v86))) fun e126 => R.bind (R.bind (R.ok (.sh (.int 2))) fun e124 => R.bind (iR e124) fun i125 => .ok (some i125)) fun i127 => R.bind (R.ok none) fun i128 => ofOR (gSl e126 i127 i128)) fun e129 => R.bind (R.ok []) fun l130 => .ok (e129 :: l130)) fun l131 => ofOR ((g1 dList) l131)) fun e136 => R.bind (R.bind (R.bind (R.ok (.sh (fz v86))) fun e132 => R.bind (R.ok (.sh (.int 0))) fun e133 => ofOR (gSub e132 e133)) fun e134 => R.bind (R.ok []) fun l135 => .ok (e134 :: l135)) fun l137 => .ok (e136 :: l137)) fun l139 => .ok (e138 :: l139)) fun l140 => szR l140.length (.lst l140))) fun v141 => .next v141 else .next v86) fun s115 => O.bind (O.of (R.bind (R.bind (R.bind (R.bind (R.bind (R.ok (.sh (fz s115))) fun e143 => R.bind (R.ok []) fun l144 => .ok (e143 :: l144)) fun l145 => ofOR ((g1 dTuple) l145)) fun e168 => R.bind (R.bind (R.ok (.sh (fz s115))) fun e166 => R.bind (R.bind (R.bind (R.bind (R.ok (.sh (fz s115))) fun e151 => R.bind (R.bind (R.bind (R.bind (R.ok (.sh (fz s115))) fun e146 => R.bind (R.ok []) fun l147 => .ok (e146 :: l147)) fun l148 => ofOR ((g1 dTuple) l148)) fun e149 => R.bind (R.ok []) fun l150 => .ok (e149 :: l150)) fun l152 => .ok (e151 :: l152)) fun l153 => szR l153.length (.sh (.tuple (l153.map fz)))) fun e164 => R.bind (R.bind (R.bind (R.bind (R.bind (R.ok (.sh (fz s115))) fun e156 => R.bind (R.ok none) fun i157 => R.bind (R.bind (R.ok (.sh (.int 2))) fun e154 => R.bind (iR e154) fun i155 => .ok (some i155)) fun i158 => ofOR (gSl e156 i157 i158)) fun e159 => R.bind (R.ok []) fun l160 => .ok (e159 :: l160)) fun l161 => ofOR ((g1 dTuple) l161)) fun e162 => R.bind (R.ok []) fun l163 => .ok (e162 :: l163)) fun l165 => .ok (e164 :: l165)) fun l167 => .ok (e166 :: l167)) fun l169 => .ok (e168 :: l169)) fun l170 => szR l170.length (.lst l170)) fun e173 => R.bind (R.bind (R.ok (.sh (nd t14 0))) fun e171 => R.bind (R.ok (.sh (.int 15))) fun e172 => ofOR (gSubI e171 e172)) fun e174 => ofOR (gSub e173 e174))) fun o175 => .ret o175
theorem okq__law_odd_0 (a1 : PyData) : jS b__law_odd [.ex (.sh a1), .un, .un, .un, .un, .un, .un] (q__law_odd_0 a1) (fun _ : Unit => [.no, .no, .no, .no, .no, .no, .no]) := by
  unfold q__law_odd_0 b__law_odd
  exact (js_seq (st1 := fun (t14 : List PyData) => [.ex (.sh a1), .ex (.sh (nd t14 0)), .ex (.sh (nd t14 1)), .ex (.sh (nd t14 2)), .un, .un, .un]) (js_asg (pt := fun _ _ => []) (pt' := fun t14 => [.ex (.sh a1), .ex (.sh (nd t14 0)), .ex (.sh (nd t14 1)), .ex (.sh (nd t14 2)), .un, .un, .un]) (j_call okq__law_drawn (j_lcons (j_v rfl) (j_lcons (j_lst (j_lcons j_c (j_lcons j_c (j_lcons j_c j_lnil)))) j_lnil))) fun _ => (jt_tup fun t14 => (jts_cons (by decide) (jts_cons (by decide) (jts_cons (by decide) jts_nil))))) fun t14 => (js_seq (st1 := fun (v54 : OV) => [.ex (.sh a1), .ex (.sh (nd t14 0)), .ex (.sh (nd t14 1)), .ex (.sh (nd t14 2)), .ex v54, .un, .un]) (js_set (j_lst (j_lcons j_c (j_lcons (j_un j_c) (j_lcons j_c (j_lcons (j_v rfl) (j_lcons j_c (j_lcons j_c (j_lcons j_c (j_lcons j_c (j_lcons j_c (j_lcons j_c (j_lcons j_c (j_lcons j_c (j_lcons j_c (j_lcons (j_bin j_c j_c) (j_lcons (j_bin j_c (j_bin j_c j_c)) j_lnil))))))))))))))))) fun v54 => (js_seq (st1 := fun (s60 : Unit) => [.no, .ex (.sh (nd t14 0)), .ex (.sh (nd t14 1)), .ex (.sh (nd t14 2)), .ex v54, .no, .no]) (js_if (j_test (j_bin (j_v rfl) j_c)) (js_retc (j_bin (j_vx rfl) (j_v rfl))) (js_nil (by exact (.no (.eq (.eq (.eq (.eq (.no (.no .nil)))))))))) fun s60 => (js_seq (st1 := fun (v86 : OV) => [.no, .ex (.sh (nd t14 0)), .ex (.sh (nd t14 1)), .ex (.sh (nd t14 2)), .fr (fz v54), .ex v86, .no]) (js_set (j_lc (pc := [.no, .ex (.sh (nd t14 0)), .ex (.sh (nd t14 1)), .ex (.sh (nd t14 2)), .fr (fz v54), .no, .no]) (j_irange1 (j_v rfl)) (by exact (.eq (.eq (.eq (.eq (.fr (.eq (.eq .nil)))))))) fun x74 => (j_turn1N (j_bin (j_vf rfl) (j_bin (j_bin (j_v rfl) (j_bin (j_v rfl) (j_v rfl))) j_c)) .rf))) fun v86 => (js_seq (st1 := fun (s115 : OV) => [.no, .ex (.sh (nd t14 0)), .no, .no, .no, .ex s115, .no]) (js_if (j_test (j_bin (j_v rfl) j_c)) (js_seq (st1 := fun (v141 : OV) => [.no, .ex (.sh (nd t14 0)), .ex (.sh (nd t14 1)), .ex (.sh (nd t14 2)), .fr (fz v54), .ex v141, .no]) (js_set (j_lst (j_lcons (j_fn (j_lcons (j_sl (j_vx rfl) j_ono (j_osome j_c)) j_lnil)) (j_lcons (j_fn (j_lcons (j_sl (j_v rfl) (j_osome j_c) j_ono) j_lnil)) (j_lcons (j_bin (j_v rfl) j_c) j_lnil))))) fun v141 => (js_nil (by exact (.eq (.eq (.no (.no (.no (.eq (.eq .nil)))))))))) (js_nil (by exact (.eq (.eq (.no (.no (.no (.eq (.eq .nil)))))))))) fun s115 => (js_retc (j_bin (j_lst (j_lcons (j_fn (j_lcons (j_vx rfl) j_lnil)) (j_lcons (j_v rfl) (j_lcons (j_tup (j_lcons (j_v rfl) (j_lcons (j_fn (j_lcons (j_v rfl) j_lnil)) j_lnil))) (j_lcons (j_fn (j_lcons (j_sl (j_v rfl) j_ono (j_osome j_c)) j_lnil)) j_lnil))))) (j_bin (j_v rfl) j_c))))))))
def q__law_odd : List PyData → R OV
  | [a1] => O.fin (q__law_odd_0 a1)
  | _ => .stk
theorem okq__law_odd : jP m__law_odd q__law_odd := fun ds => match ds with
  | [a1] => j_def (qq := q__law_odd_0 a1) (okq__law_odd_0 a1)
  | [] => trivial
  | _ :: _ :: _ => trivial
def b__law_ships_1 : Rho → Out :=
  (sCons (sIf (eTest (eBin (gLe) (eBin gAdd (eV 4) (eV 1)) (eBin gSub (eV 0) (cC (.int 1))))) (sCons (sExpr (eMut 2 "list" mApp (lCons (eTup (lCons (eV 3) (lCons (eV 4) (lCons (cC (.str "along")) (lCons (eV 1) lNil))))) lNil)))
    sNil) sNil)
    (sCons (sIf (bAnd (eTest (eBin (gLe) (eBin gAdd (eV 3) (eV 1)) (eBin gSub (eV 0) (cC (.int 0))))) (eTest (eBin (gGt) (eV 1) (cC (.int 1))))) (sCons (sExpr (eMut 2 "list" mApp (lCons (eTup (lCons (eV 3) (lCons (eV 4) (lCons (cC (.str "down")) (lCons (eV 1) lNil))))) lNil)))
    sNil) sNil)
    sNil))
def b__law_ships_2 : Rho → Out :=
  (sCons (sFor [4] (iRange1 (eBin gSub (eV 0) (cC (.int 1)))) (hName 4) b__law_ships_1)
    sNil)
def b__law_ships : Rho → Out :=
  (sCons (sSet 2 (eLst lNil))
    (sCons (sFor [3, 4] (iRange1 (eBin gSub (eV 0) (cC (.int 0)))) (hName 3) b__law_ships_2)
    (sCons (sRet (eM 2))
    sNil)))
def m__law_ships : List PyData → Rv := runP 5 b__law_ships
def q__law_ships_1 (a1 : PyData) (a2 : PyData) (x243 : PyData) (x557 : PyData) (s556 : OV) : O (OV) :=
  O.bind (O.bind (O.of (R.bind (R.bind (R.bind (R.ok (.sh x557)) fun e633 => R.bind (R.ok (.sh a2)) fun e634 => ofOR (gAdd e633 e634)) fun e637 => R.bind (R.bind (R.ok (.sh a1)) fun e635 => R.bind (R.ok (.sh (.int 1))) fun e636 => ofOR (gSub e635 e636)) fun e638 => ofOR (gLe e637 e638)) toBR)) fun b668 => if b668 = true then O.bind (O.of (R.bind (ownR "list" s556) fun _ => R.bind (R.bind (R.bind (R.bind (R.ok (.sh x243)) fun e660 => R.bind (R.bind (R.ok (.sh x557)) fun e658 => R.bind (R.bind (R.ok (.sh (.str "along"))) fun e656 => R.bind (R.bind (R.ok (.sh a2)) fun e654 => R.bind (R.ok []) fun l655 => .ok (e654 :: l655)) fun l657 => .ok (e656 :: l657)) fun l659 => .ok (e658 :: l659)) fun l661 => .ok (e660 :: l661)) fun l662 => szR l662.length (.sh (.tuple (l662.map fz)))) fun e663 => R.bind (R.ok []) fun l664 => .ok (e663 :: l664)) fun l666 => R.bind (mutR mApp s556 l666) fun r667 => .ok r667.1)) fun v665 => .next v665 else .next s556) fun s653 => O.bind (O.bind (O.of (R.bind (R.bind (R.bind (R.bind (R.ok (.sh x243)) fun e669 => R.bind (R.ok (.sh a2)) fun e670 => ofOR (gAdd e669 e670)) fun e673 => R.bind (R.bind (R.ok (.sh a1)) fun e671 => R.bind (R.ok (.sh (.int 0))) fun e672 => ofOR (gSub e671 e672)) fun e674 => ofOR (gLe e673 e674)) toBR) fun b677 => if b677 = true then (R.bind (R.bind (R.ok (.sh a2)) fun e675 => R.bind (R.ok (.sh (.int 1))) fun e676 => ofOR (gGt e675 e676)) toBR) else .ok false)) fun b707 => if b707 = true then O.bind (O.of (R.bind (ownR "list" s653) fun _ => R.bind (R.bind (R.bind (R.bind (R.ok (.sh x243)) fun e699 => R.bind (R.bind (R.ok (.sh x557)) fun e697 => R.bind (R.bind (R.ok (.sh (.str "down"))) fun e695 => R.bind (R.bind (R.ok (.sh a2)) fun e693 => R.bind (R.ok []) fun l694 => .ok (e693 :: l694)) fun l696 => .ok (e695 :: l696)) fun l698 => .ok (e697 :: l698)) fun l700 => .ok (e699 :: l700)) fun l701 => szR l701.length (.sh (.tuple (l701.map fz)))) fun e702 => R.bind (R.ok []) fun l703 => .ok (e702 :: l703)) fun l705 => R.bind (mutR mApp s653 l705) fun r706 => .ok r706.1)) fun v704 => .next v704 else .next s653) fun s692 => .next s692
theorem okq__law_ships_1 (a1 : PyData) (a2 : PyData) (x243 : PyData) (x557 : PyData) (s556 : OV) : jS b__law_ships_1 [.ex (.sh a1), .ex (.sh a2), .ex s556, .ex (.sh x243), .ex (.sh x557)] (q__law_ships_1 a1 a2 x243 x557 s556) (fun (s556 : OV) => [.ex (.sh a1), .ex (.sh a2), .ex s556, .ex (.sh x243), .no]) := by
  unfold q__law_ships_1 b__law_ships_1
  exact (js_seq (st1 := fun (s653 : OV) => [.ex (.sh a1), .ex (.sh a2), .ex s653, .ex (.sh x243), .ex (.sh x557)]) (js_if (j_test (j_bin (j_bin (j_v rfl) (j_v rfl)) (j_bin (j_v rfl) j_c))) (js_seq (st1 := fun (v665 : OV) => [.ex (.sh a1), .ex (.sh a2), .ex v665, .ex (.sh x243), .ex (.sh x557)]) (js_mut rfl (j_lcons (j_tup (j_lcons (j_v rfl) (j_lcons (j_v rfl) (j_lcons j_c (j_lcons (j_v rfl) j_lnil))))) j_lnil) rfl) fun v665 => (js_nil .rf)) (js_nil .rf)) fun s653 => (js_seq (st1 := fun (s692 : OV) => [.ex (.sh a1), .ex (.sh a2), .ex s692, .ex (.sh x243), .no]) (js_if (j_band (j_test (j_bin (j_bin (j_v rfl) (j_v rfl)) (j_bin (j_v rfl) j_c))) (j_test (j_bin (j_v rfl) j_c)) .rf) (js_seq (st1 := fun (v704 : OV) => [.ex (.sh a1), .ex (.sh a2), .ex v704, .ex (.sh x243), .ex (.sh x557)]) (js_mut rfl (j_lcons (j_tup (j_lcons (j_v rfl) (j_lcons (j_v rfl) (j_lcons j_c (j_lcons (j_v rfl) j_lnil))))) j_lnil) rfl) fun v704 => (js_nil (by exact (.eq (.eq (.eq (.eq (.no .nil)))))))) (js_nil (by exact (.eq (.eq (.eq (.eq (.no .nil)))))))) fun s692 => (js_nil .rf)))
def q__law_ships_2 (a1 : PyData) (a2 : PyData) (x243 : PyData) (s242 : OV) : O (OV) :=
  O.bind (O.bind (O.of (R.bind (R.bind (R.ok (.sh a1)) fun e477 => R.bind (R.ok (.sh (.int 1))) fun e478 => ofOR (gSub e477 e478)) rng1R)) fun z708 => forO z708 (fun x557 s556 => q__law_ships_1 a1 a2 x243 x557 s556) s242) fun s709 => .next s709
theorem okq__law_ships_2 (a1 : PyData) (a2 : PyData) (x243 : PyData) (s242 : OV) : jS b__law_ships_2 [.ex (.sh a1), .ex (.sh a2), .ex s242, .ex (.sh x243), .no] (q__law_ships_2 a1 a2 x243 s242) (fun (s242 : OV) => [.ex (.sh a1), .ex (.sh a2), .ex s242, .no, .no]) := by
  unfold q__law_ships_2 b__law_ships_2
  exact (js_seq (st1 := fun (s709 : OV) => [.ex (.sh a1), .ex (.sh a2), .ex s709, .ex (.sh x243), .no]) (js_forN (st := fun (s556 : OV) => [.ex (.sh a1), .ex (.sh a2), .ex s556, .ex (.sh x243), .no]) (j_irange1 (j_bin (j_v rfl) j_c)) .rf (fun x557 s556 => okq__law_ships_1 a1 a2 x243 x557 s556) (fun _ => rfl)) fun s709 => (js_nil (by exact (.eq (.eq (.eq (.no (.eq .nil))))))))
def q__law_ships_0 (a1 : PyData) (a2 : PyData) : O Unit :=
  O.bind (O.of (R.bind (R.ok []) fun l3 => szR l3.length (.lst l3))) fun v4 => O.bind (O.bind (O.of (R.bind (R.bind (R.ok (.sh a1)) fun e5 => R.bind (R.ok (.sh (.int 0))) fun e6 => ofOR (gSub e5 e6)) rng1R)) fun z710 => forO z710 (fun x243 s242 => q__law_ships_2 a1 a2 x243 s242) v4) fun s711 => O.bind (O.of (R.ok s711)) fun o712 => .ret o712
theorem okq__law_ships_0 (a1 : PyData) (a2 : PyData) : jS b__law_ships [.ex (.sh a1), .ex (.sh a2), .un, .un, .un] (q__law_ships_0 a1 a2) (fun _ : Unit => [.no, .no, .no, .no, .no]) := by
  unfold q__law_ships_0 b__law_ships
  exact (js_seq (st1 := fun (v4 : OV) => [.ex (.sh a1), .ex (.sh a2), .ex v4, .un, .un]) (js_set (j_lst j_lnil)) fun v4 => (js_seq (st1 := fun (s711 : OV) => [.ex (.sh a1), .ex (.sh a2), .ex s711, .no, .no]) (js_forN (st := fun (s242 : OV) => [.ex (.sh a1), .ex (.sh a2), .ex s242, .no, .no]) (j_irange1 (j_bin (j_v rfl) j_c)) .rf (fun x243 s242 => okq__law_ships_2 a1 a2 x243 s242) (fun _ => rfl)) fun s711 => (js_retc (j_m rfl))))
def q__law_ships : List PyData → R OV
  | [a1, a2] => O.fin (q__law_ships_0 a1 a2)
  | _ => .stk
theorem okq__law_ships : jP m__law_ships q__law_ships := fun ds => match ds with
  | [a1, a2] => j_def (qq := q__law_ships_0 a1 a2) (okq__law_ships_0 a1 a2)
  | [] => trivial
  | [_] => trivial
  | _ :: _ :: _ :: _ => trivial
def b_ships_of_1 : Rho → Out :=
  (sCons (sExpr (eMut 2 "list" mExt (lCons (eLc [5] (iVal (cC (.tuple [.str "along", .str "down"]))) (hName 5) (eTest (eCall m_is_ship (lCons (eV 0) (lCons (eTup (lCons (eV 3) (lCons (eV 4) (lCons (eV 5) (lCons (eV 1) lNil))))) lNil)))) (eTup (lCons (eV 3) (lCons (eV 4) (lCons (eV 5) (lCons (eV 1) lNil)))))) lNil)))
    sNil)
def b_ships_of_2 : Rho → Out :=
  (sCons (sFor [4, 5] (iRange1 (eBin gSub (eV 0) (cC (.int 1)))) (hName 4) b_ships_of_1)
    sNil)
def b_ships_of : Rho → Out :=
  (sCons (sSet 2 (eLst lNil))
    (sCons (sIf (eTest (eBin (gGt) (eV 1) (cC (.int 8)))) (sCons (sRet (eM 2))
    sNil) sNil)
    (sCons (sFor [3, 4, 5] (iRange1 (eBin gSub (eV 0) (cC (.int 0)))) (hName 3) b_ships_of_2)
    (sCons (sRet (eM 2))
    sNil))))
def m_ships_of : List PyData → Rv := runP 6 b_ships_of
def q_ships_of_1 (a1 : PyData) (a2 : PyData) (x123 : PyData) (x269 : PyData) (s268 : OV) : O (OV) :=
  O.bind (O.of (R.bind (ownR "list" s268) fun _ => R.bind (R.bind (R.bind (R.bind (R.ok (.sh (.tuple [.str "along", .str "down"]))) itR) fun z329 => R.bind (lcR (fun x303 => R.bind (R.bind (R.bind (R.bind (R.ok (.sh a1)) fun e315 => R.bind (R.bind (R.bind (R.bind (R.ok (.sh x123)) fun e310 => R.bind (R.bind (R.ok (.sh x269)) fun e308 => R.bind (R.bind (R.ok (.sh x303)) fun e306 => R.bind (R.bind (R.ok (.sh a2)) fun e304 => R.bind (R.ok []) fun l305 => .ok (e304 :: l305)) fun l307 => .ok (e306 :: l307)) fun l309 => .ok (e308 :: l309)) fun l311 => .ok (e310 :: l311)) fun l312 => szR l312.length (.sh (.tuple (l312.map fz)))) fun e313 => R.bind (R.ok []) fun l314 => .ok (e313 :: l314)) fun l316 => .ok (e315 :: l316)) fun l317 => q_is_ship (l317.map fz)) toBR) fun b328 => if b328 = true then R.bind (R.bind (R.bind (R.ok (.sh x123)) fun e324 => R.bind (R.bind (R.ok (.sh x269)) fun e322 => R.bind (R.bind (R.ok (.sh x303)) fun e320 => R.bind (R.bind (R.ok (.sh a2)) fun e318 => R.bind (R.ok []) fun l319 => .ok (e318 :: l319)) fun l321 => .ok (e320 :: l321)) fun l323 => .ok (e322 :: l323)) fun l325 => .ok (e324 :: l325)) fun l326 => szR l326.length (.sh (.tuple (l326.map fz)))) fun o327 => .ok (some o327) else .ok none) z329) fun l330 => szR l330.length (.lst l330)) fun e331 => R.bind (R.ok []) fun l332 => .ok (e331 :: l332)) fun l334 => R.bind (mutR mExt s268 l334) fun r335 => .ok r335.1)) fun v333 => .next v333
theorem okq_ships_of_1 (a1 : PyData) (a2 : PyData) (x123 : PyData) (x269 : PyData) (s268 : OV) : jS b_ships_of_1 [.ex (.sh a1), .ex (.sh a2), .ex s268, .ex (.sh x123), .ex (.sh x269), .no] (q_ships_of_1 a1 a2 x123 x269 s268) (fun (s268 : OV) => [.ex (.sh a1), .ex (.sh a2), .ex s268, .ex (.sh x123), .no, .no]) := by
  unfold q_ships_of_1 b_ships_of_1
  exact (js_seq (st1 := fun (v333 : OV) => [.ex (.sh a1), .ex (.sh a2), .ex v333, .ex (.sh x123), .ex (.sh x269), .no]) (js_mut rfl (j_lcons (j_lc (pc := [.ex (.sh a1), .ex (.sh a2), .ex s268, .ex (.sh x123), .ex (.sh x269), .no]) (j_ival j_c) .rf fun x303 => (j_turnN (j_test (j_call okq_is_ship (j_lcons (j_v rfl) (j_lcons (j_tup (j_lcons (j_v rfl) (j_lcons (j_v rfl) (j_lcons (j_v rfl) (j_lcons (j_v rfl) j_lnil))))) j_lnil)))) (j_tup (j_lcons (j_v rfl) (j_lcons (j_v rfl) (j_lcons (j_v rfl) (j_lcons (j_v rfl) j_lnil))))) .rf .rf)) j_lnil) rfl) fun v333 => (js_nil (by exact (.eq (.eq (.eq (.eq (.no (.eq .nil)))))))))
def q_ships_of_2 (a1 : PyData) (a2 : PyData) (x123 : PyData) (s122 : OV) : O (OV) :=
  O.bind (O.bind (O.of (R.bind (R.bind (R.ok (.sh a1)) fun e231 => R.bind (R.ok (.sh (.int 1))) fun e232 => ofOR (gSub e231 e232)) rng1R)) fun z336 => forO z336 (fun x269 s268 => q_ships_of_1 a1 a2 x123 x269 s268) s122) fun s337 => .next s337
theorem okq_ships_of_2 (a1 : PyData) (a2 : PyData) (x123 : PyData) (s122 : OV) : jS b_ships_of_2 [.ex (.sh a1), .ex (.sh a2), .ex s122, .ex (.sh x123), .no, .no] (q_ships_of_2 a1 a2 x123 s122) (fun (s122 : OV) => [.ex (.sh a1), .ex (.sh a2), .ex s122, .no, .no, .no]) := by
  unfold q_ships_of_2 b_ships_of_2
  exact (js_seq (st1 := fun (s337 : OV) => [.ex (.sh a1), .ex (.sh a2), .ex s337, .ex (.sh x123), .no, .no]) (js_forN (st := fun (s268 : OV) => [.ex (.sh a1), .ex (.sh a2), .ex s268, .ex (.sh x123), .no, .no]) (j_irange1 (j_bin (j_v rfl) j_c)) .rf (fun x269 s268 => okq_ships_of_1 a1 a2 x123 x269 s268) (fun _ => rfl)) fun s337 => (js_nil (by exact (.eq (.eq (.eq (.no (.eq (.eq .nil)))))))))
def q_ships_of_0 (a1 : PyData) (a2 : PyData) : O Unit :=
  O.bind (O.of (R.bind (R.ok []) fun l3 => szR l3.length (.lst l3))) fun v4 => O.bind (O.bind (O.of (R.bind (R.bind (R.ok (.sh a2)) fun e5 => R.bind (R.ok (.sh (.int 8))) fun e6 => ofOR (gGt e5 e6)) toBR)) fun b10 => if b10 = true then O.bind (O.of (R.ok v4)) fun o9 => .ret o9 else .next ()) fun s8 => O.bind (O.bind (O.of (R.bind (R.bind (R.ok (.sh a1)) fun e11 => R.bind (R.ok (.sh (.int 0))) fun e12 => ofOR (gSub e11 e12)) rng1R)) fun z338 => forO z338 (fun x123 s122 => q_ships_of_2 a1 a2 x123 s122) v4) fun s339 => O.bind (O.of (R.ok s339)) fun o340 => .ret o340
theorem okq_ships_of_0 (a1 : PyData) (a2 : PyData) : jS b_ships_of [.ex (.sh a1), .ex (.sh a2), .un, .un, .un, .un] (q_ships_of_0 a1 a2) (fun _ : Unit => [.no, .no, .no, .no, .no, .no]) := by
  unfold q_ships_of_0 b_ships_of
  exact (js_seq (st1 := fun (v4 : OV) => [.ex (.sh a1), .ex (.sh a2), .ex v4, .un, .un, .un]) (js_set (j_lst j_lnil)) fun v4 => (js_seq (st1 := fun (s8 : Unit) => [.ex (.sh a1), .ex (.sh a2), .ex v4, .no, .no, .no]) (js_if (j_test (j_bin (j_v rfl) j_c)) (js_retc (j_m rfl)) (js_nil (by exact (.eq (.eq (.eq (.no (.no (.no .nil))))))))) fun s8 => (js_seq (st1 := fun (s339 : OV) => [.ex (.sh a1), .ex (.sh a2), .ex s339, .no, .no, .no]) (js_forN (st := fun (s122 : OV) => [.ex (.sh a1), .ex (.sh a2), .ex s122, .no, .no, .no]) (j_irange1 (j_bin (j_v rfl) j_c)) .rf (fun x123 s122 => okq_ships_of_2 a1 a2 x123 s122) (fun _ => rfl)) fun s339 => (js_retc (j_m rfl)))))
def q_ships_of : List PyData → R OV
  | [a1, a2] => O.fin (q_ships_of_0 a1 a2)
  | _ => .stk
theorem okq_ships_of : jP m_ships_of q_ships_of := fun ds => match ds with
  | [a1, a2] => j_def (qq := q_ships_of_0 a1 a2) (okq_ships_of_0 a1 a2)
  | [] => trivial
  | [_] => trivial
  | _ :: _ :: _ :: _ => trivial
def b_reach : Rho → Out :=
  (sCons (sRet (eBin gSub (eDict [((cC (.str "free")), (eTup (lCons (cC (.int 0)) (lCons (cC (.int 0)) lNil)))), ((cC (.str "sides")), (eTup (lCons (cC (.int 1)) (lCons (cC (.int 1)) lNil)))), ((cC (.str "corners")), (eTup (lCons (cC (.int 2)) (lCons (cC (.int 1)) lNil))))]) (eV 0)))
    sNil)
def m_reach : List PyData → Rv := runP 1 b_reach
def q_reach_0 (a1 : PyData) : O Unit :=
  O.bind (O.of (R.bind (R.bind (noX (R.bind (R.ok (.sh (.str "free"))) fun e23 => R.bind (R.bind (R.bind (R.ok (.sh (.int 0))) fun e4 => R.bind (R.bind (R.ok (.sh (.int 0))) fun e2 => R.bind (R.ok []) fun l3 => .ok (e2 :: l3)) fun l5 => .ok (e4 :: l5)) fun l6 => szR l6.length (.sh (.tuple (l6.map fz)))) fun e24 => R.bind (R.bind (R.ok (.sh (.str "sides"))) fun e20 => R.bind (R.bind (R.bind (R.ok (.sh (.int 1))) fun e9 => R.bind (R.bind (R.ok (.sh (.int 1))) fun e7 => R.bind (R.ok []) fun l8 => .ok (e7 :: l8)) fun l10 => .ok (e9 :: l10)) fun l11 => szR l11.length (.sh (.tuple (l11.map fz)))) fun e21 => R.bind (R.bind (R.ok (.sh (.str "corners"))) fun e17 => R.bind (R.bind (R.bind (R.ok (.sh (.int 2))) fun e14 => R.bind (R.bind (R.ok (.sh (.int 1))) fun e12 => R.bind (R.ok []) fun l13 => .ok (e12 :: l13)) fun l15 => .ok (e14 :: l15)) fun l16 => szR l16.length (.sh (.tuple (l16.map fz)))) fun e18 => R.bind (R.ok []) fun r19 => .ok ((e17, e18) :: r19)) fun r22 => .ok ((e20, e21) :: r22)) fun r25 => .ok ((e23, e24) :: r25))) dictR) fun e26 => R.bind (R.ok (.sh a1)) fun e27 => ofOR (gSub e26 e27))) fun o28 => .ret o28
theorem okq_reach_0 (a1 : PyData) : jS b_reach [.ex (.sh a1)] (q_reach_0 a1) (fun _ : Unit => [.no]) := by
  unfold q_reach_0 b_reach
  exact (js_retc (j_bin (j_dict (j_pscons j_c (j_tup (j_lcons j_c (j_lcons j_c j_lnil))) (j_pscons j_c (j_tup (j_lcons j_c (j_lcons j_c j_lnil))) (j_pscons j_c (j_tup (j_lcons j_c (j_lcons j_c j_lnil))) j_psnil)))) (j_v rfl)))
def q_reach : List PyData → R OV
  | [a1] => O.fin (q_reach_0 a1)
  | _ => .stk
theorem okq_reach : jP m_reach q_reach := fun ds => match ds with
  | [a1] => j_def (qq := q_reach_0 a1) (okq_reach_0 a1)
  | [] => trivial
  | _ :: _ :: _ => trivial
def b_too_near : Rho → Out :=
  (sCons (sPar 3 4 (lCons (eFn (g1 dAbs) (lCons (eSub (eBin gSub (eV 1) (cC (.int 0))) (eBin gSub (eV 2) (cC (.int 0)))) lNil)) (lCons (eFn (g1 dAbs) (lCons (eSub (eBin gSub (eV 1) (cC (.int 1))) (eBin gSub (eV 2) (cC (.int 1)))) lNil)) lNil)))
    (sCons (sAsg (hTup 2 (hCons (hName 5) (hCons (hName 6) hNil))) (eCall m_reach (lCons (eV 0) lNil)))
    (sCons (sRet (eAnd (eBin (gLe) (eBin gAdd (eV 3) (eV 4)) (eV 5)) (eBin (gLe) (eFn (gMax max2 maxI) (lCons (eV 3) (lCons (eV 4) lNil))) (eV 6))))
    sNil)))
def m_too_near : List PyData → Rv := runP 7 b_too_near
def q_too_near_0 (a1 : PyData) (a2 : PyData) (a3 : PyData) : O Unit :=
  O.bind (O.of (R.bind (R.bind (R.bind (R.bind (R.bind (R.bind (R.ok (.sh a2)) fun e4 => R.bind (R.ok (.sh (.int 0))) fun e5 => ofOR (gSub e4 e5)) fun e8 => R.bind (R.bind (R.ok (.sh a3)) fun e6 => R.bind (R.ok (.sh (.int 0))) fun e7 => ofOR (gSub e6 e7)) fun e9 => ofOR (gSubI e8 e9)) fun e10 => R.bind (R.ok []) fun l11 => .ok (e10 :: l11)) fun l12 => ofOR ((g1 dAbs) l12)) fun e24 => R.bind (R.bind (R.bind (R.bind (R.bind (R.bind (R.ok (.sh a2)) fun e13 => R.bind (R.ok (.sh (.int 1))) fun e14 => ofOR (gSub e13 e14)) fun e17 => R.bind (R.bind (R.ok (.sh a3)) fun e15 => R.bind (R.ok (.sh (.int 1))) fun e16 => ofOR (gSub e15 e16)) fun e18 => ofOR (gSubI e17 e18)) fun e19 => R.bind (R.ok []) fun l20 => .ok (e19 :: l20)) fun l21 => ofOR ((g1 dAbs) l21)) fun e22 => R.bind (R.ok []) fun l23 => .ok (e22 :: l23)) fun l25 => .ok (e24 :: l25)) par2R)) fun v26 => O.bind (O.of (R.bind (R.bind (R.bind (R.ok (.sh a1)) fun e27 => R.bind (R.ok []) fun l28 => .ok (e27 :: l28)) fun l29 => q_reach (l29.map fz)) fun o31 => unT 2 (fz o31))) fun t30 => O.bind (O.of (R.bind (R.bind (R.bind (R.ok (.sh (fz v26.1))) fun e32 => R.bind (R.ok (.sh (fz v26.2))) fun e33 => ofOR (gAdd e32 e33)) fun e34 => R.bind (R.ok (.sh (nd t30 0))) fun e35 => ofOR (gLe e34 e35)) fun e43 => andR e43 (R.bind (R.bind (R.bind (R.ok (.sh (fz v26.1))) fun e38 => R.bind (R.bind (R.ok (.sh (fz v26.2))) fun e36 => R.bind (R.ok []) fun l37 => .ok (e36 :: l37)) fun l39 => .ok (e38 :: l39)) fun l40 => ofOR ((gMax max2 maxI) l40)) fun e41 => R.bind (R.ok (.sh (nd t30 1))) fun e42 => ofOR (gLe e41 e42)))) fun o44 => .ret o44
theorem okq_too_near_0 (a1 : PyData) (a2 : PyData) (a3 : PyData) : jS b_too_near [.ex (.sh a1), .ex (.sh a2), .ex (.sh a3), .un, .un, .un, .un] (q_too_near_0 a1 a2 a3) (fun _ : Unit => [.no, .no, .no, .no, .no, .no, .no]) := by
  unfold q_too_near_0 b_too_near
  exact (js_seq (st1 := fun (v26 : OV × OV) => [.ex (.sh a1), .ex (.sh a2), .ex (.sh a3), .ex v26.1, .ex v26.2, .un, .un]) (js_par (j_lcons (j_fn (j_lcons (j_bin (j_bin (j_v rfl) j_c) (j_bin (j_v rfl) j_c)) j_lnil)) (j_lcons (j_fn (j_lcons (j_bin (j_bin (j_v rfl) j_c) (j_bin (j_v rfl) j_c)) j_lnil)) j_lnil))) fun v26 => (js_seq (st1 := fun (t30 : List PyData) => [.ex (.sh a1), .ex (.sh a2), .ex (.sh a3), .ex v26.1, .ex v26.2, .ex (.sh (nd t30 0)), .ex (.sh (nd t30 1))]) (js_asg (pt := fun _ _ => []) (pt' := fun t30 => [.ex (.sh a1), .ex (.sh a2), .ex (.sh a3), .ex v26.1, .ex v26.2, .ex (.sh (nd t30 0)), .ex (.sh (nd t30 1))]) (j_call okq_reach (j_lcons (j_v rfl) j_lnil)) fun _ => (jt_tup fun t30 => (jts_cons (by decide) (jts_cons (by decide) jts_nil)))) fun t30 => (js_retc (j_and (j_bin (j_bin (j_vx rfl) (j_vx rfl)) (j_v rfl)) (j_bin (j_fn (j_lcons (j_v rfl) (j_lcons (j_v rfl) j_lnil))) (j_v rfl)) .rf))))
def q_too_near : List PyData → R OV
  | [a1, a2, a3] => O.fin (q_too_near_0 a1 a2 a3)
  | _ => .stk
theorem okq_too_near : jP m_too_near q_too_near := fun ds => match ds with
  | [a1, a2, a3] => j_def (qq := q_too_near_0 a1 a2 a3) (okq_too_near_0 a1 a2 a3)
  | [] => trivial
  | [_] => trivial
  | [_, _] => trivial
  | _ :: _ :: _ :: _ :: _ => trivial
def b_keep_1 : Rho → Out :=
  (sCons (sIf (eTest (eCall m_too_near (lCons (eV 0) (lCons (eV 3) (lCons (eV 4) lNil))))) (sCons (sRet (cC (.bool false)))
    sNil) sNil)
    sNil)
def b_keep_2 : Rho → Out :=
  (sCons (sFor [4] (iVal (eCall m_cells_of (lCons (eV 2) lNil))) (hName 4) b_keep_1)
    sNil)
def b_keep : Rho → Out :=
  (sCons (sFor [3, 4] (iVal (eCall m_cells_of (lCons (eV 1) lNil))) (hName 3) b_keep_2)
    (sCons (sRet (cC (.bool true)))
    sNil))
def m_keep : List PyData → Rv := runP 5 b_keep
def q_keep_1 (a1 : PyData) (x8 : PyData) (x42 : PyData) (s41 : Unit) : O (Unit) :=
  O.bind (O.bind (O.of (R.bind (R.bind (R.bind (R.ok (.sh a1)) fun e58 => R.bind (R.bind (R.ok (.sh x8)) fun e56 => R.bind (R.bind (R.ok (.sh x42)) fun e54 => R.bind (R.ok []) fun l55 => .ok (e54 :: l55)) fun l57 => .ok (e56 :: l57)) fun l59 => .ok (e58 :: l59)) fun l60 => q_too_near (l60.map fz)) toBR)) fun b64 => if b64 = true then O.bind (O.of (R.ok (.sh (.bool false)))) fun o63 => .ret o63 else .next ()) fun s62 => .next ()
theorem okq_keep_1 (a1 : PyData) (a3 : PyData) (x8 : PyData) (x42 : PyData) (s41 : Unit) : jS b_keep_1 [.ex (.sh a1), .no, .ex (.sh a3), .ex (.sh x8), .ex (.sh x42)] (q_keep_1 a1 x8 x42 s41) (fun (s41 : Unit) => [.ex (.sh a1), .no, .ex (.sh a3), .ex (.sh x8), .no]) := by
  unfold q_keep_1 b_keep_1
  exact (js_seq (st1 := fun (s62 : Unit) => [.ex (.sh a1), .no, .ex (.sh a3), .ex (.sh x8), .no]) (js_if (j_test (j_call okq_too_near (j_lcons (j_v rfl) (j_lcons (j_v rfl) (j_lcons (j_v rfl) j_lnil))))) (js_retc j_c) (js_nil (by exact (.eq (.eq (.eq (.eq (.no .nil)))))))) fun s62 => (js_nil .rf))
def q_keep_2 (a1 : PyData) (a3 : PyData) (x8 : PyData) (s7 : Unit) : O (Unit) :=
  O.bind (O.bind (O.of (R.bind (R.bind (R.bind (R.ok (.sh a3)) fun e38 => R.bind (R.ok []) fun l39 => .ok (e38 :: l39)) fun l40 => q_cells_of (l40.map fz)) itR)) fun z65 => forO z65 (fun x42 s41 => q_keep_1 a1 x8 x42 s41) ()) fun s66 => .next ()
theorem okq_keep_2 (a1 : PyData) (a3 : PyData) (x8 : PyData) (s7 : Unit) : jS b_keep_2 [.ex (.sh a1), .no, .ex (.sh a3), .ex (.sh x8), .no] (q_keep_2 a1 a3 x8 s7) (fun (s7 : Unit) => [.ex (.sh a1), .no, .ex (.sh a3), .no, .no]) := by
  unfold q_keep_2 b_keep_2
  exact (js_seq (st1 := fun (s66 : Unit) => [.ex (.sh a1), .no, .ex (.sh a3), .ex (.sh x8), .no]) (js_forN (st := fun (s41 : Unit) => [.ex (.sh a1), .no, .ex (.sh a3), .ex (.sh x8), .no]) (j_ival (j_call okq_cells_of (j_lcons (j_v rfl) j_lnil))) .rf (fun x42 s41 => okq_keep_1 a1 a3 x8 x42 s41) (fun _ => rfl)) fun s66 => (js_nil (by exact (.eq (.eq (.eq (.no (.eq .nil))))))))
def q_keep_0 (a1 : PyData) (a2 : PyData) (a3 : PyData) : O Unit :=
  O.bind (O.bind (O.of (R.bind (R.bind (R.bind (R.ok (.sh a2)) fun e4 => R.bind (R.ok []) fun l5 => .ok (e4 :: l5)) fun l6 => q_cells_of (l6.map fz)) itR)) fun z67 => forO z67 (fun x8 s7 => q_keep_2 a1 a3 x8 s7) ()) fun s68 => O.bind (O.of (R.ok (.sh (.bool true)))) fun o69 => .ret o69
theorem okq_keep_0 (a1 : PyData) (a2 : PyData) (a3 : PyData) : jS b_keep [.ex (.sh a1), .ex (.sh a2), .ex (.sh a3), .un, .un] (q_keep_0 a1 a2 a3) (fun _ : Unit => [.no, .no, .no, .no, .no]) := by
  unfold q_keep_0 b_keep
  exact (js_seq (st1 := fun (s68 : Unit) => [.ex (.sh a1), .no, .ex (.sh a3), .no, .no]) (js_forN (st := fun (s7 : Unit) => [.ex (.sh a1), .no, .ex (.sh a3), .no, .no]) (j_ival (j_call okq_cells_of (j_lcons (j_v rfl) j_lnil))) (by exact (.eq (.no (.eq (.eq (.eq .nil)))))) (fun x8 s7 => okq_keep_2 a1 a3 x8 s7) (fun _ => rfl)) fun s68 => (js_retc j_c))
def q_keep : List PyData → R OV
  | [a1, a2, a3] => O.fin (q_keep_0 a1 a2 a3)
  | _ => .stk
theorem okq_keep : jP m_keep q_keep := fun ds => match ds with
  | [a1, a2, a3] => j_def (qq := q_keep_0 a1 a2 a3) (okq_keep_0 a1 a2 a3)
  | [] => trivial
  | [_] => trivial
  | [_, _] => trivial
  | _ :: _ :: _ :: _ :: _ => trivial
def b__law_cells_1 : Rho → Out :=
  (sCons (sExpr (eMut 5 "list" mApp (lCons (eTup (lCons (eBin gAdd (eV 1) (eMul (eV 6) (eFn (g1 dInt) (lCons (eBin (gEq false) (eV 3) (cC (.str "down"))) lNil)))) (lCons (eBin gAdd (eV 2) (eMul (eV 6) (eFn (g1 dInt) (lCons (eBin (gEq false) (eV 3) (cC (.str "along"))) lNil)))) lNil))) lNil)))
    sNil)
def b__law_cells : Rho → Out :=
  (sCons (sAsg (hTup 4 (hCons (hName 1) (hCons (hName 2) (hCons (hName 3) (hCons (hName 4) hNil))))) (eV 0))
    (sCons (sSet 5 (eLst lNil))
    (sCons (sFor [6] (iRange1 (eV 4)) (hName 6) b__law_cells_1)
    (sCons (sRet (eM 5))
    sNil))))
def m__law_cells : List PyData → Rv := runP 7 b__law_cells
def q__law_cells_1 (t2 : List PyData) (x37 : PyData) (s36 : OV) : O (OV) :=
  O.bind (O.of (R.bind (ownR "list" s36) fun _ => R.bind (R.bind (R.bind (R.bind (R.bind (R.ok (.sh (nd t2 0))) fun e73 => R.bind (R.bind (R.ok (.sh x37)) fun e71 => R.bind (R.bind (R.bind (R.bind (R.ok (.sh (nd t2 2))) fun e66 => R.bind (R.ok (.sh (.str "down"))) fun e67 => ofOR (gEq false e66 e67)) fun e68 => R.bind (R.ok []) fun l69 => .ok (e68 :: l69)) fun l70 => ofOR ((g1 dInt) l70)) fun e72 => ofOR (gMulI e71 e72)) fun e74 => ofOR (gAdd e73 e74)) fun e86 => R.bind (R.bind (R.bind (R.ok (.sh (nd t2 1))) fun e82 => R.bind (R.bind (R.ok (.sh x37)) fun e80 => R.bind (R.bind (R.bind (R.bind (R.ok (.sh (nd t2 2))) fun e75 => R.bind (R.ok (.sh (.str "along"))) fun e76 => ofOR (gEq false e75 e76)) fun e77 => R.bind (R.ok []) fun l78 => .ok (e77 :: l78)) fun l79 => ofOR ((g1 dInt) l79)) fun e81 => ofOR (gMulI e80 e81)) fun e83 => ofOR (gAdd e82 e83)) fun e84 => R.bind (R.ok []) fun l85 => .ok (e84 :: l85)) fun l87 => .ok (e86 :: l87)) fun l88 => szR l88.length (.sh (.tuple (l88.map fz)))) fun e89 => R.bind (R.ok []) fun l90 => .ok (e89 :: l90)) fun l92 => R.bind (mutR mApp s36 l92) fun r93 => .ok r93.1)) fun v91 => .next v91
theorem okq__law_cells_1 (t2 : List PyData) (x37 : PyData) (s36 : OV) : jS b__law_cells_1 [.no, .ex (.sh (nd t2 0)), .ex (.sh (nd t2 1)), .ex (.sh (nd t2 2)), .no, .ex s36, .ex (.sh x37)] (q__law_cells_1 t2 x37 s36) (fun (s36 : OV) => [.no, .ex (.sh (nd t2 0)), .ex (.sh (nd t2 1)), .ex (.sh (nd t2 2)), .no, .ex s36, .no]) := by
  unfold q__law_cells_1 b__law_cells_1
  exact (js_seq (st1 := fun (v91 : OV) => [.no, .ex (.sh (nd t2 0)), .ex (.sh (nd t2 1)), .ex (.sh (nd t2 2)), .no, .ex v91, .ex (.sh x37)]) (js_mut rfl (j_lcons (j_tup (j_lcons (j_bin (j_v rfl) (j_bin (j_v rfl) (j_fn (j_lcons (j_bin (j_v rfl) j_c) j_lnil)))) (j_lcons (j_bin (j_v rfl) (j_bin (j_v rfl) (j_fn (j_lcons (j_bin (j_v rfl) j_c) j_lnil)))) j_lnil))) j_lnil) rfl) fun v91 => (js_nil (by exact (.eq (.eq (.eq (.eq (.eq (.eq (.no .nil))))))))))
def q__law_cells_0 (a1 : PyData) : O Unit :=
  O.bind (O.of (R.bind (R.ok (.sh a1)) fun o3 => unT 4 (fz o3))) fun t2 => O.bind (O.of (R.bind (R.ok []) fun l4 => szR l4.length (.lst l4))) fun v5 => O.bind (O.bind (O.of (R.bind (R.ok (.sh (nd t2 3))) rng1R)) fun z94 => forO z94 (fun x37 s36 => q__law_cells_1 t2 x37 s36) v5) fun s95 => O.bind (O.of (R.ok s95)) fun o96 => .ret o96
theorem okq__law_cells_0 (a1 : PyData) : jS b__law_cells [.ex (.sh a1), .un, .un, .un, .un, .un, .un] (q__law_cells_0 a1) (fun _ : Unit => [.no, .no, .no, .no, .no, .no, .no]) := by
  unfold q__law_cells_0 b__law_cells
  exact (js_seq (st1 := fun (t2 : List PyData) => [.ex (.sh a1), .ex (.sh (nd t2 0)), .ex (.sh (nd t2 1)), .ex (.sh (nd t2 2)), .ex (.sh (nd t2 3)), .un, .un]) (js_asg (pt := fun _ _ => []) (pt' := fun t2 => [.ex (.sh a1), .ex (.sh (nd t2 0)), .ex (.sh (nd t2 1)), .ex (.sh (nd t2 2)), .ex (.sh (nd t2 3)), .un, .un]) (j_v rfl) fun _ => (jt_tup fun t2 => (jts_cons (by decide) (jts_cons (by decide) (jts_cons (by decide) (jts_cons (by decide) jts_nil)))))) fun t2 => (js_seq (st1 := fun (v5 : OV) => [.ex (.sh a1), .ex (.sh (nd t2 0)), .ex (.sh (nd t2 1)), .ex (.sh (nd t2 2)), .ex (.sh (nd t2 3)), .ex v5, .un]) (js_set (j_lst j_lnil)) fun v5 => (js_seq (st1 := fun (s95 : OV) => [.no, .ex (.sh (nd t2 0)), .ex (.sh (nd t2 1)), .ex (.sh (nd t2 2)), .no, .ex s95, .no]) (js_forN (st := fun (s36 : OV) => [.no, .ex (.sh (nd t2 0)), .ex (.sh (nd t2 1)), .ex (.sh (nd t2 2)), .no, .ex s36, .no]) (j_irange1 (j_v rfl)) (by exact (.no (.eq (.eq (.eq (.no (.eq (.eq .nil)))))))) (fun x37 s36 => okq__law_cells_1 t2 x37 s36) (fun _ => rfl)) fun s95 => (js_retc (j_m rfl)))))
def q__law_cells : List PyData → R OV
  | [a1] => O.fin (q__law_cells_0 a1)
  | _ => .stk
theorem okq__law_cells : jP m__law_cells q__law_cells := fun ds => match ds with
  | [a1] => j_def (qq := q__law_cells_0 a1) (okq__law_cells_0 a1)
  | [] => trivial
  | _ :: _ :: _ => trivial
def b__law_halo_1 : Rho → Out :=
  (sCons (sSetIx 2 (cC (.bool true)) (eTup (lCons (eBin gAdd (eV 4) (eV 6)) (lCons (eBin gAdd (eV 5) (eV 7)) lNil))))
    sNil)
def b__law_halo_2 : Rho → Out :=
  (sCons (sFor [6, 7] (iVal (eV 3)) (hTup 2 (hCons (hName 6) (hCons (hName 7) hNil))) b__law_halo_1)
    sNil)
def b__law_halo : Rho → Out :=
  (sCons (sSet 2 eDT)
    (sCons (sSet 3 (eLst (lCons (eTup (lCons (cC (.int 0)) (lCons (cC (.int 0)) lNil))) lNil)))
    (sCons (sIf (eTest (eBin (gEq true) (eV 0) (cC (.str "free")))) (sCons (sSet 3 (eBin gAdd (eV 3) (eLst (lCons (eTup (lCons (cC (.int 0)) (lCons (cC (.int 1)) lNil))) (lCons (eTup (lCons (cC (.int 1)) (lCons (cC (.int 0)) lNil))) (lCons (eTup (lCons (cC (.int 0)) (lCons (eNeg (cC (.int 1))) lNil))) (lCons (eTup (lCons (eNeg (cC (.int 1))) (lCons (cC (.int 0)) lNil))) lNil)))))))
    sNil) sNil)
    (sCons (sIf (eTest (eBin (gEq false) (eV 0) (cC (.str "corners")))) (sCons (sSet 3 (eBin gAdd (eV 3) (eLst (lCons (eTup (lCons (cC (.int 1)) (lCons (cC (.int 1)) lNil))) (lCons (eTup (lCons (cC (.int 1)) (lCons (eNeg (cC (.int 1))) lNil))) (lCons (eTup (lCons (eNeg (cC (.int 1))) (lCons (cC (.int 1)) lNil))) (lCons (eTup (lCons (eNeg (cC (.int 1))) (lCons (eNeg (cC (.int 1))) lNil))) lNil)))))))
    sNil) sNil)
    (sCons (sFor [4, 5, 6, 7] (iVal (eCall m__law_cells (lCons (eV 1) lNil))) (hTup 2 (hCons (hName 4) (hCons (hName 5) hNil))) b__law_halo_2)
    (sCons (sRet (eM 2))
    sNil))))))
def m__law_halo : List PyData → Rv := runP 8 b__law_halo
def q__law_halo_1 (t213 : List PyData) (t275 : List PyData) (x274 : PyData) (s273 : OV) : O (OV) :=
  O.bind (O.of (R.bind (R.ok (.sh (.bool true))) fun o298 => R.bind (R.bind (R.bind (R.bind (R.ok (.sh (nd t213 0))) fun e288 => R.bind (R.ok (.sh (nd t275 0))) fun e289 => ofOR (gAdd e288 e289)) fun e294 => R.bind (R.bind (R.bind (R.ok (.sh (nd t213 1))) fun e290 => R.bind (R.ok (.sh (nd t275 1))) fun e291 => ofOR (gAdd e290 e291)) fun e292 => R.bind (R.ok []) fun l293 => .ok (e292 :: l293)) fun l295 => .ok (e294 :: l295)) fun l296 => szR l296.length (.sh (.tuple (l296.map fz)))) fun k299 => setR s273 k299 o298)) fun v297 => .next v297
theorem okq__law_halo_1 (s123 : OV) (t213 : List PyData) (t275 : List PyData) (x274 : PyData) (s273 : OV) : jS b__law_halo_1 [.no, .no, .ex s273, .fr (fz s123), .ex (.sh (nd t213 0)), .ex (.sh (nd t213 1)), .ex (.sh (nd t275 0)), .ex (.sh (nd t275 1))] (q__law_halo_1 t213 t275 x274 s273) (fun (s273 : OV) => [.no, .no, .ex s273, .fr (fz s123), .ex (.sh (nd t213 0)), .ex (.sh (nd t213 1)), .no, .no]) := by
  unfold q__law_halo_1 b__law_halo_1
  exact (js_seq (st1 := fun (v297 : OV) => [.no, .no, .ex v297, .fr (fz s123), .ex (.sh (nd t213 0)), .ex (.sh (nd t213 1)), .ex (.sh (nd t275 0)), .ex (.sh (nd t275 1))]) (js_setIx j_c rfl rfl (j_tup (j_lcons (j_bin (j_v rfl) (j_v rfl)) (j_lcons (j_bin (j_v rfl) (j_v rfl)) j_lnil))) rfl) fun v297 => (js_nil (by exact (.eq (.eq (.eq (.eq (.eq (.eq (.no (.no .nil)))))))))))
def q__law_halo_2 (s123 : OV) (t213 : List PyData) (x212 : PyData) (s211 : OV) : O (OV) :=
  O.bind (O.bind (O.of (R.bind (R.ok (.sh (fz s123))) itR)) fun z300 => forO z300 (fun x274 s273 => O.bind (O.of (unT 2 (fz (.sh x274)))) fun t275 => q__law_halo_1 t213 t275 x274 s273) s211) fun s301 => .next s301
theorem okq__law_halo_2 (s123 : OV) (t213 : List PyData) (x212 : PyData) (s211 : OV) : jS b__law_halo_2 [.no, .no, .ex s211, .fr (fz s123), .ex (.sh (nd t213 0)), .ex (.sh (nd t213 1)), .no, .no] (q__law_halo_2 s123 t213 x212 s211) (fun (s211 : OV) => [.no, .no, .ex s211, .fr (fz s123), .no, .no, .no, .no]) := by
  unfold q__law_halo_2 b__law_halo_2
  exact (js_seq (st1 := fun (s301 : OV) => [.no, .no, .ex s301, .fr (fz s123), .ex (.sh (nd t213 0)), .ex (.sh (nd t213 1)), .no, .no]) (js_for (st := fun (s273 : OV) => [.no, .no, .ex s273, .fr (fz s123), .ex (.sh (nd t213 0)), .ex (.sh (nd t213 1)), .no, .no]) (pt := fun x274 s273 t275 => [.no, .no, .ex s273, .fr (fz s123), .ex (.sh (nd t213 0)), .ex (.sh (nd t213 1)), .ex (.sh (nd t275 0)), .ex (.sh (nd t275 1))]) (j_ival (j_vf rfl)) .rf (fun x274 s273 => (jt_tup fun t275 => (jts_cons (by decide) (jts_cons (by decide) jts_nil)))) (fun x274 s273 t275 => okq__law_halo_1 s123 t213 t275 x274 s273) (fun _ => rfl)) fun s301 => (js_nil (by exact (.eq (.eq (.eq (.eq (.no (.no (.eq (.eq .nil)))))))))))
def q__law_halo_0 (a1 : PyData) (a2 : PyData) : O Unit :=
  O.bind (O.of (R.ok (.dt []))) fun v3 => O.bind (O.of (R.bind (R.bind (R.bind (R.bind (R.ok (.sh (.int 0))) fun e6 => R.bind (R.bind (R.ok (.sh (.int 0))) fun e4 => R.bind (R.ok []) fun l5 => .ok (e4 :: l5)) fun l7 => .ok (e6 :: l7)) fun l8 => szR l8.length (.sh (.tuple (l8.map fz)))) fun e9 => R.bind (R.ok []) fun l10 => .ok (e9 :: l10)) fun l11 => szR l11.length (.lst l11))) fun v12 => O.bind (O.bind (O.of (R.bind (R.bind (R.ok (.sh a1)) fun e13 => R.bind (R.ok (.sh (.str "free"))) fun e14 => ofOR (gEq true e13 e14)) toBR)) fun b84 => if b84 = true then O.bind (O.of (R.bind (R.ok (.sh (fz v12))) fun e81 => R.bind (R.bind (R.bind (R.bind (R.bind (R.ok (.sh (.int 0))) fun e52 => R.bind (R.bind (R.ok (.sh (.int 1))) fun e50 => R.bind (R.ok []) fun l51 => .ok (e50 :: l51)) fun l53 => .ok (e52 :: l53)) fun l54 => szR l54.length (.sh (.tuple (l54.map fz)))) fun e78 => R.bind (R.bind (R.bind (R.bind (R.ok (.sh (.int 1))) fun e57 => R.bind (R.bind (R.ok (.sh (.int 0))) fun e55 => R.bind (R.ok []) fun l56 => .ok (e55 :: l56)) fun l58 => .ok (e57 :: l58)) fun l59 => szR l59.length (.sh (.tuple (l59.map fz)))) fun e76 => R.bind (R.bind (R.bind (R.bind (R.ok (.sh (.int 0))) fun e63 => R.bind (R.bind (R.bind (R.ok (.sh (.int 1))) fun e60 => ofOR ((gI fun i => .int (-i)) e60)) fun e61 => R.bind (R.ok []) fun l62 => .ok (e61 :: l62)) fun l64 => .ok (e63 :: l64)) fun l65 => szR l65.length (.sh (.tuple (l65.map fz)))) fun e74 => R.bind (R.bind (R.bind (R.bind (R.bind (R.ok (.sh (.int 1))) fun e66 => ofOR ((gI fun i => .int (-i)) e66)) fun e69 => R.bind (R.bind (R.ok (.sh (.int 0))) fun e67 => R.bind (R.ok []) fun l68 => .ok (e67 :: l68)) fun l70 => .ok (e69 :: l70)) fun l71 => szR l71.length (.sh (.tuple (l71.map fz)))) fun e72 => R.bind (R.ok []) fun l73 => .ok (e72 :: l73)) fun l75 => .ok (e74 :: l75)) fun l77 => .ok (e76 :: l77)) fun l79 => .ok (e78 :: l79)) fun l80 => szR l80.length (.lst l80)) fun e82 => ofOR (gAdd e81 e82))) fun v83 => .next v83 else .next v12) fun s49 => O.bind (O.bind (O.of (R.bind (R.bind (R.ok (.sh a1)) fun e85 => R.bind (R.ok (.sh (.str "corners"))) fun e86 => ofOR (gEq false e85 e86)) toBR)) fun b160 => if b160 = true then O.bind (O.of (R.bind (R.ok (.sh (fz s49))) fun e157 => R.bind (R.bind (R.bind (R.bind (R.bind (R.ok (.sh (.int 1))) fun e126 => R.bind (R.bind (R.ok (.sh (.int 1))) fun e124 => R.bind (R.ok []) fun l125 => .ok (e124 :: l125)) fun l127 => .ok (e126 :: l127)) fun l128 => szR l128.length (.sh (.tuple (l128.map fz)))) fun e154 => R.bind (R.bind (R.bind (R.bind (R.ok (.sh (.int 1))) fun e132 => R.bind (R.bind (R.bind (R.ok (.sh (.int 1))) fun e129 => ofOR ((gI fun i => .int (-i)) e129)) fun e130 => R.bind (R.ok []) fun l131 => .ok (e130 :: l131)) fun l133 => .ok (e132 :: l133)) fun l134 => szR l134.length (.sh (.tuple (l134.map fz)))) fun e152 => R.bind (R.bind (R.bind (R.bind (R.bind (R.ok (.sh (.int 1))) fun e135 => ofOR ((gI fun i => .int (-i)) e135)) fun e138 => R.bind (R.bind (R.ok (.sh (.int 1))) fun e136 => R.bind (R.ok []) fun l137 => .ok (e136 :: l137)) fun l139 => .ok (e138 :: l139)) fun l140 => szR l140.length (.sh (.tuple (l140.map fz)))) fun e150 => R.bind (R.bind (R.bind (R.bind (R.bind (R.ok (.sh (.int 1))) fun e141 => ofOR ((gI fun i => .int (-i)) e141)) fun e145 => R.bind (R.bind (R.bind (R.ok (.sh (.int 1))) fun e142 => ofOR ((gI fun i => .int (-i)) e142)) fun e143 => R.bind (R.ok []) fun l144 => .ok (e143 :: l144)) fun l146 => .ok (e145 :: l146)) fun l147 => szR l147.length (.sh (.tuple (l147.map fz)))) fun e148 => R.bind (R.ok []) fun l149 => .ok (e148 :: l149)) fun l151 => .ok (e150 :: l151)) fun l153 => .ok (e152 :: l153)) fun l155 => .ok (e154 :: l155)) fun l156 => szR l156.length (.lst l156)) fun e158 => ofOR (gAdd e157 e158))) fun v159 => .next v159 else .next s49) fun s123 => O.bind (O.bind (O.of (R.bind (R.bind (R.bind (R.ok (.sh a2)) fun e161 => R.bind (R.ok []) fun l162 => .ok (e161 :: l162)) fun l163 => q__law_cells (l163.map fz)) itR)) fun z302 => forO z302 (fun x212 s211 => O.bind (O.of (unT 2 (fz (.sh x212)))) fun t213 => q__law_halo_2 s123 t213 x212 s211) v3) fun s303 => O.bind (O.of (R.ok s303)) fun o304 => .ret o304
theorem okq__law_halo_0 (a1 : PyData) (a2 : PyData) : jS b__law_halo [.ex (.sh a1), .ex (.sh a2), .un, .un, .un, .un, .un, .un] (q__law_halo_0 a1 a2) (fun _ : Unit => [.no, .no, .no, .no, .no, .no, .no, .no]) := by
  unfold q__law_halo_0 b__law_halo
  exact (js_seq (st1 := fun (v3 : OV) => [.ex (.sh a1), .ex (.sh a2), .ex v3, .un, .un, .un, .un, .un]) (js_set j_dT) fun v3 => (js_seq (st1 := fun (v12 : OV) => [.ex (.sh a1), .ex (.sh a2), .ex v3, .ex v12, .un, .un, .un, .un]) (js_set (j_lst (j_lcons (j_tup (j_lcons j_c (j_lcons j_c j_lnil))) j_lnil))) fun v12 => (js_seq (st1 := fun (s49 : OV) => [.ex (.sh a1), .ex (.sh a2), .ex v3, .ex s49, .no, .no, .no, .no]) (js_if (j_test (j_bin (j_v rfl) j_c)) (js_seq (st1 := fun (v83 : OV) => [.ex (.sh a1), .ex (.sh a2), .ex v3, .ex v83, .un, .un, .un, .un]) (js_set (j_bin (j_vx rfl) (j_lst (j_lcons (j_tup (j_lcons j_c (j_lcons j_c j_lnil))) (j_lcons (j_tup (j_lcons j_c (j_lcons j_c j_lnil))) (j_lcons (j_tup (j_lcons j_c (j_lcons (j_un j_c) j_lnil))) (j_lcons (j_tup (j_lcons (j_un j_c) (j_lcons j_c j_lnil))) j_lnil))))))) fun v83 => (js_nil (by exact (.eq (.eq (.eq (.eq (.no (.no (.no (.no .nil))))))))))) (js_nil (by exact (.eq (.eq (.eq (.eq (.no (.no (.no (.no .nil))))))))))) fun s49 => (js_seq (st1 := fun (s123 : OV) => [.no, .ex (.sh a2), .ex v3, .ex s123, .no, .no, .no, .no]) (js_if (j_test (j_bin (j_v rfl) j_c)) (js_seq (st1 := fun (v159 : OV) => [.ex (.sh a1), .ex (.sh a2), .ex v3, .ex v159, .no, .no, .no, .no]) (js_set (j_bin (j_vx rfl) (j_lst (j_lcons (j_tup (j_lcons j_c (j_lcons j_c j_lnil))) (j_lcons (j_tup (j_lcons j_c (j_lcons (j_un j_c) j_lnil))) (j_lcons (j_tup (j_lcons (j_un j_c) (j_lcons j_c j_lnil))) (j_lcons (j_tup (j_lcons (j_un j_c) (j_lcons (j_un j_c) j_lnil))) j_lnil))))))) fun v159 => (js_nil (by exact (.no (.eq (.eq (.eq (.eq (.eq (.eq (.eq .nil))))))))))) (js_nil (by exact (.no (.eq (.eq (.eq (.eq (.eq (.eq (.eq .nil))))))))))) fun s123 => (js_seq (st1 := fun (s303 : OV) => [.no, .no, .ex s303, .fr (fz s123), .no, .no, .no, .no]) (js_for (st := fun (s211 : OV) => [.no, .no, .ex s211, .fr (fz s123), .no, .no, .no, .no]) (pt := fun x212 s211 t213 => [.no, .no, .ex s211, .fr (fz s123), .ex (.sh (nd t213 0)), .ex (.sh (nd t213 1)), .no, .no]) (j_ival (j_call okq__law_cells (j_lcons (j_v rfl) j_lnil))) (by exact (.eq (.no (.eq (.fr (.eq (.eq (.eq (.eq .nil))))))))) (fun x212 s211 => (jt_tup fun t213 => (jts_cons (by decide) (jts_cons (by decide) jts_nil)))) (fun x212 s211 t213 => okq__law_halo_2 s123 t213 x212 s211) (fun _ => rfl)) fun s303 => (js_retc (j_m rfl)))))))
def q__law_halo : List PyData → R OV
  | [a1, a2] => O.fin (q__law_halo_0 a1 a2)
  | _ => .stk
theorem okq__law_halo : jP m__law_halo q__law_halo := fun ds => match ds with
  | [a1, a2] => j_def (qq := q__law_halo_0 a1 a2) (okq__law_halo_0 a1 a2)
  | [] => trivial
  | [_] => trivial
  | _ :: _ :: _ :: _ => trivial
def b__law_free_1 : Rho → Out :=
  (sCons (sIf (eTest (eBin (gIn false) (eV 3) (eV 2))) (sCons (sRet (cC (.bool false)))
    sNil) sNil)
    sNil)
def b__law_free_2 : Rho → Out :=
  (sCons (sFor [3] (iVal (eV 1)) (hName 3) b__law_free_1)
    sNil)
def b__law_free : Rho → Out :=
  (sCons (sFor [2, 3] (iVal (eV 0)) (hName 2) b__law_free_2)
    (sCons (sRet (cC (.bool true)))
    sNil))
def m__law_free : List PyData → Rv := runP 4 b__law_free
def q__law_free_1 (x4 : PyData) (x22 : PyData) (s21 : Unit) : O (Unit) :=
  O.bind (O.bind (O.of (R.bind (R.bind (R.ok (.sh x22)) fun e29 => R.bind (R.ok (.sh x4)) fun e30 => ofOR (gIn false e29 e30)) toBR)) fun b34 => if b34 = true then O.bind (O.of (R.ok (.sh (.bool false)))) fun o33 => .ret o33 else .next ()) fun s32 => .next ()
theorem okq__law_free_1 (a2 : PyData) (x4 : PyData) (x22 : PyData) (s21 : Unit) : jS b__law_free_1 [.no, .ex (.sh a2), .ex (.sh x4), .ex (.sh x22)] (q__law_free_1 x4 x22 s21) (fun (s21 : Unit) => [.no, .ex (.sh a2), .ex (.sh x4), .no]) := by
  unfold q__law_free_1 b__law_free_1
  exact (js_seq (st1 := fun (s32 : Unit) => [.no, .ex (.sh a2), .ex (.sh x4), .no]) (js_if (j_test (j_bin (j_v rfl) (j_v rfl))) (js_retc j_c) (js_nil (by exact (.eq (.eq (.eq (.no .nil))))))) fun s32 => (js_nil .rf))
def q__law_free_2 (a2 : PyData) (x4 : PyData) (s3 : Unit) : O (Unit) :=
  O.bind (O.bind (O.of (R.bind (R.ok (.sh a2)) itR)) fun z35 => forO z35 (fun x22 s21 => q__law_free_1 x4 x22 s21) ()) fun s36 => .next ()
theorem okq__law_free_2 (a2 : PyData) (x4 : PyData) (s3 : Unit) : jS b__law_free_2 [.no, .ex (.sh a2), .ex (.sh x4), .no] (q__law_free_2 a2 x4 s3) (fun (s3 : Unit) => [.no, .ex (.sh a2), .no, .no]) := by
  unfold q__law_free_2 b__law_free_2
  exact (js_seq (st1 := fun (s36 : Unit) => [.no, .ex (.sh a2), .ex (.sh x4), .no]) (js_forN (st := fun (s21 : Unit) => [.no, .ex (.sh a2), .ex (.sh x4), .no]) (j_ival (j_v rfl)) .rf (fun x22 s21 => okq__law_free_1 a2 x4 x22 s21) (fun _ => rfl)) fun s36 => (js_nil (by exact (.eq (.eq (.no (.eq .nil)))))))
def q__law_free_0 (a1 : PyData) (a2 : PyData) : O Unit :=
  O.bind (O.bind (O.of (R.bind (R.ok (.sh a1)) itR)) fun z37 => forO z37 (fun x4 s3 => q__law_free_2 a2 x4 s3) ()) fun s38 => O.bind (O.of (R.ok (.sh (.bool true)))) fun o39 => .ret o39
theorem okq__law_free_0 (a1 : PyData) (a2 : PyData) : jS b__law_free [.ex (.sh a1), .ex (.sh a2), .un, .un] (q__law_free_0 a1 a2) (fun _ : Unit => [.no, .no, .no, .no]) := by
  unfold q__law_free_0 b__law_free
  exact (js_seq (st1 := fun (s38 : Unit) => [.no, .ex (.sh a2), .no, .no]) (js_forN (st := fun (s3 : Unit) => [.no, .ex (.sh a2), .no, .no]) (j_ival (j_v rfl)) (by exact (.no (.eq (.eq (.eq .nil))))) (fun x4 s3 => okq__law_free_2 a2 x4 s3) (fun _ => rfl)) fun s38 => (js_retc j_c))
def q__law_free : List PyData → R OV
  | [a1, a2] => O.fin (q__law_free_0 a1 a2)
  | _ => .stk
theorem okq__law_free : jP m__law_free q__law_free := fun ds => match ds with
  | [a1, a2] => j_def (qq := q__law_free_0 a1 a2) (okq__law_free_0 a1 a2)
  | [] => trivial
  | [_] => trivial
  | _ :: _ :: _ :: _ => trivial
def b__law_all_1 : Rho → Out :=
  (sCons (sSet 13 (eOr (eBin (gEq false) (eV 4) (cC (.int 0))) (eOr (eBin (gEq true) (eBin gSub (eV 1) (eSub (eV 4) (cC (.int 1)))) (eV 5)) (eBin (gLt) (eBin gSub (eV 10) (eNeg (cC (.int 1)))) (eBin gSub (eV 6) (eV 12))))))
    (sCons (sIf (bAnd (eTest (eV 13)) (eTest (eCall m__law_free (lCons (eV 11) (lCons (eBin gSub (eV 8) (eV 12)) lNil))))) (sCons (sExpr (eMut 9 "list" mApp (lCons (eTup (lCons (eBin gAdd (eV 10) (eTup (lCons (eBin gSub (eV 6) (eV 12)) lNil))) (lCons (eBin gAdd (eV 11) (eLst (lCons (eBin gSub (eV 7) (eV 12)) lNil))) lNil))) lNil)))
    sNil) sNil)
    sNil))
def b__law_all_2 : Rho → Out :=
  (sCons (sFor [12, 13] (iRange1 (eFn (g1 dLen) (lCons (eV 6) lNil))) (hName 12) b__law_all_1)
    sNil)
def b__law_all_3 : Rho → Out :=
  (sCons (sSet 6 (eCall m__law_ships (lCons (eV 0) (lCons (eV 5) lNil))))
    (sCons (sSet 7 (eLc [14] (iVal (eV 6)) (hName 14) tYesR (eCall m__law_halo (lCons (eV 2) (lCons (eV 14) lNil)))))
    (sCons (sSet 8 (eLc [14] (iVal (eV 6)) (hName 14) tYesR (eCall m__law_cells (lCons (eV 14) lNil))))
    (sCons (sSet 9 (eLst lNil))
    (sCons (sFor [10, 11, 12, 13] (iVal (eV 3)) (hTup 2 (hCons (hName 10) (hCons (hName 11) hNil))) b__law_all_2)
    (sCons (sSet 3 (eM 9))
    sNil))))))
def b__law_all : Rho → Out :=
  (sCons (sSet 3 (eLst (lCons (eTup (lCons (eTup lNil) (lCons (eLst lNil) lNil))) lNil)))
    (sCons (sFor [4, 5, 6, 7, 8, 9, 10, 11, 12, 13, 14] (iEnumA (eV 1)) (hTup 2 (hCons (hName 4) (hCons (hName 5) hNil))) b__law_all_3)
    (sCons (sRet (eLc [10, 11] (iVal (eV 3)) (hTup 2 (hCons (hName 10) (hCons (hName 11) hNil))) tYesR (eV 10)))
    sNil)))
def m__law_all : List PyData → Rv := runP 15 b__law_all
def q__law_all_1 (a2 : PyData) (t766 : List PyData) (v1518 : OV) (v1528 : OV) (v1536 : OV) (t1781 : List PyData) (x2101 : PyData) (s2100 : OV) : O (OV) :=
  O.bind (O.of (R.bind (R.bind (R.ok (.sh (nd t766 0))) fun e2178 => R.bind (R.ok (.sh (.int 0))) fun e2179 => ofOR (gEq false e2178 e2179)) fun e2194 => orR e2194 (R.bind (R.bind (R.bind (R.ok (.sh a2)) fun e2182 => R.bind (R.bind (R.ok (.sh (nd t766 0))) fun e2180 => R.bind (R.ok (.sh (.int 1))) fun e2181 => ofOR (gSubI e2180 e2181)) fun e2183 => ofOR (gSub e2182 e2183)) fun e2184 => R.bind (R.ok (.sh (nd t766 1))) fun e2185 => ofOR (gEq true e2184 e2185)) fun e2193 => orR e2193 (R.bind (R.bind (R.ok (.sh (nd t1781 0))) fun e2187 => R.bind (R.bind (R.ok (.sh (.int 1))) fun e2186 => ofOR ((gI fun i => .int (-i)) e2186)) fun e2188 => ofOR (gSub e2187 e2188)) fun e2191 => R.bind (R.bind (R.ok (.sh (fz v1518))) fun e2189 => R.bind (R.ok (.sh x2101)) fun e2190 => ofOR (gSub e2189 e2190)) fun e2192 => ofOR (gLt e2191 e2192))))) fun v2195 => O.bind (O.bind (O.of (R.bind (R.bind (R.ok (.sh (fz v2195))) toBR) fun b2203 => if b2203 = true then (R.bind (R.bind (R.bind (R.ok (.sh (nd t1781 1))) fun e2200 => R.bind (R.bind (R.bind (R.ok (.sh (fz v1536))) fun e2196 => R.bind (R.ok (.sh x2101)) fun e2197 => ofOR (gSub e2196 e2197)) fun e2198 => R.bind (R.ok []) fun l2199 => .ok (e2198 :: l2199)) fun l2201 => .ok (e2200 :: l2201)) fun l2202 => q__law_free (l2202.map fz)) toBR) else .ok false)) fun b2253 => if b2253 = true then O.bind (O.of (R.bind (ownR "list" s2100) fun _ => R.bind (R.bind (R.bind (R.bind (R.bind (R.ok (.sh (nd t1781 0))) fun e2234 => R.bind (R.bind (R.bind (R.bind (R.ok (.sh (fz v1518))) fun e2229 => R.bind (R.ok (.sh x2101)) fun e2230 => ofOR (gSub e2229 e2230)) fun e2231 => R.bind (R.ok []) fun l2232 => .ok (e2231 :: l2232)) fun l2233 => szR l2233.length (.sh (.tuple (l2233.map fz)))) fun e2235 => ofOR (gAdd e2234 e2235)) fun e2245 => R.bind (R.bind (R.bind (R.ok (.sh (nd t1781 1))) fun e2241 => R.bind (R.bind (R.bind (R.bind (R.ok (.sh (fz v1528))) fun e2236 => R.bind (R.ok (.sh x2101)) fun e2237 => ofOR (gSub e2236 e2237)) fun e2238 => R.bind (R.ok []) fun l2239 => .ok (e2238 :: l2239)) fun l2240 => szR l2240.length (.lst l2240)) fun e2242 => ofOR (gAdd e2241 e2242)) fun e2243 => R.bind (R.ok []) fun l2244 => .ok (e2243 :: l2244)) fun l2246 => .ok (e2245 :: l2246)) fun l2247 => szR l2247.length (.sh (.tuple (l2247.map fz)))) fun e2248 => R.bind (R.ok []) fun l2249 => .ok (e2248 :: l2249)) fun l2251 => R.bind (mutR mApp s2100 l2251) fun r2252 => .ok r2252.1)) fun v2250 => .next v2250 else .next s2100) fun s2228 => .next s2228
theorem okq__law_all_1 (a1 : PyData) (a2 : PyData) (a3 : PyData) (t766 : List PyData) (v1518 : OV) (v1528 : OV) (v1536 : OV) (t1781 : List PyData) (x2101 : PyData) (s2100 : OV) : jS b__law_all_1 [.ex (.sh a1), .ex (.sh a2), .ex (.sh a3), .no, .ex (.sh (nd t766 0)), .ex (.sh (nd t766 1)), .ex (.sh (fz v1518)), .fr (fz v1528), .fr (fz v1536), .ex s2100, .ex (.sh (nd t1781 0)), .ex (.sh (nd t1781 1)), .ex (.sh x2101), .no, .no] (q__law_all_1 a2 t766 v1518 v1528 v1536 t1781 x2101 s2100) (fun (s2100 : OV) => [.ex (.sh a1), .ex (.sh a2), .ex (.sh a3), .no, .ex (.sh (nd t766 0)), .ex (.sh (nd t766 1)), .ex (.sh (fz v1518)), .fr (fz v1528), .fr (fz v1536), .ex s2100, .ex (.sh (nd t1781 0)), .ex (.sh (nd t1781 1)), .no, .no, .no]) := by
  unfold q__law_all_1 b__law_all_1
  exact (js_seq (st1 := fun (v2195 : OV) => [.ex (.sh a1), .ex (.sh a2), .ex (.sh a3), .no, .ex (.sh (nd t766 0)), .ex (.sh (nd t766 1)), .ex (.sh (fz v1518)), .fr (fz v1528), .fr (fz v1536), .ex s2100, .ex (.sh (nd t1781 0)), .ex (.sh (nd t1781 1)), .ex (.sh x2101), .ex v2195, .no]) (js_set (j_or (j_bin (j_v rfl) j_c) (j_or (j_bin (j_bin (j_v rfl) (j_bin (j_v rfl) j_c)) (j_v rfl)) (j_bin (j_bin (j_v rfl) (j_un j_c)) (j_bin (j_v rfl) (j_v rfl))) .rf) .rf)) fun v2195 => (js_seq (st1 := fun (s2228 : OV) => [.ex (.sh a1), .ex (.sh a2), .ex (.sh a3), .no, .ex (.sh (nd t766 0)), .ex (.sh (nd t766 1)), .ex (.sh (fz v1518)), .fr (fz v1528), .fr (fz v1536), .ex s2228, .ex (.sh (nd t1781 0)), .ex (.sh (nd t1781 1)), .no, .no, .no]) (js_if (j_band (j_test (j_vx rfl)) (j_test (j_call okq__law_free (j_lcons (j_v rfl) (j_lcons (j_bin (j_vf rfl) (j_v rfl)) j_lnil)))) .rf) (js_seq (st1 := fun (v2250 : OV) => [.ex (.sh a1), .ex (.sh a2), .ex (.sh a3), .no, .ex (.sh (nd t766 0)), .ex (.sh (nd t766 1)), .ex (.sh (fz v1518)), .fr (fz v1528), .fr (fz v1536), .ex v2250, .ex (.sh (nd t1781 0)), .ex (.sh (nd t1781 1)), .ex (.sh x2101), .ex (.sh (fz v2195)), .no]) (js_mut rfl (j_lcons (j_tup (j_lcons (j_bin (j_v rfl) (j_tup (j_lcons (j_bin (j_v rfl) (j_v rfl)) j_lnil))) (j_lcons (j_bin (j_v rfl) (j_lst (j_lcons (j_bin (j_vf rfl) (j_v rfl)) j_lnil))) j_lnil))) j_lnil) rfl) fun v2250 => (js_nil (by exact (.eq (.eq (.eq (.eq (.eq (.eq (.eq (.eq (.eq (.eq (.eq (.eq (.no (.no (.eq .nil)))))))))))))))))) (js_nil (by exact (.eq (.eq (.eq (.eq (.eq (.eq (.eq (.eq (.eq (.eq (.eq (.eq (.no (.no (.eq .nil)))))))))))))))))) fun s2228 => (js_nil .rf)))
def q__law_all_2 (a2 : PyData) (t766 : List PyData) (v1518 : OV) (v1528 : OV) (v1536 : OV) (t1781 : List PyData) (x1780 : PyData) (s1779 : OV) : O (OV) :=
  O.bind (O.bind (O.of (R.bind (R.bind (R.bind (R.ok (.sh (fz v1518))) fun e2019 => R.bind (R.ok []) fun l2020 => .ok (e2019 :: l2020)) fun l2021 => ofOR ((g1 dLen) l2021)) rng1R)) fun z2254 => forO z2254 (fun x2101 s2100 => q__law_all_1 a2 t766 v1518 v1528 v1536 t1781 x2101 s2100) s1779) fun s2255 => .next s2255
theorem okq__law_all_2 (a1 : PyData) (a2 : PyData) (a3 : PyData) (t766 : List PyData) (v1518 : OV) (v1528 : OV) (v1536 : OV) (t1781 : List PyData) (x1780 : PyData) (s1779 : OV) : jS b__law_all_2 [.ex (.sh a1), .ex (.sh a2), .ex (.sh a3), .no, .ex (.sh (nd t766 0)), .ex (.sh (nd t766 1)), .ex (.sh (fz v1518)), .fr (fz v1528), .fr (fz v1536), .ex s1779, .ex (.sh (nd t1781 0)), .ex (.sh (nd t1781 1)), .no, .no, .no] (q__law_all_2 a2 t766 v1518 v1528 v1536 t1781 x1780 s1779) (fun (s1779 : OV) => [.ex (.sh a1), .ex (.sh a2), .ex (.sh a3), .no, .ex (.sh (nd t766 0)), .ex (.sh (nd t766 1)), .ex (.sh (fz v1518)), .fr (fz v1528), .fr (fz v1536), .ex s1779, .no, .no, .no, .no, .no]) := by
  unfold q__law_all_2 b__law_all_2
  exact (js_seq (st1 := fun (s2255 : OV) => [.ex (.sh a1), .ex (.sh a2), .ex (.sh a3), .no, .ex (.sh (nd t766 0)), .ex (.sh (nd t766 1)), .ex (.sh (fz v1518)), .fr (fz v1528), .fr (fz v1536), .ex s2255, .ex (.sh (nd t1781 0)), .ex (.sh (nd t1781 1)), .no, .no, .no]) (js_forN (st := fun (s2100 : OV) => [.ex (.sh a1), .ex (.sh a2), .ex (.sh a3), .no, .ex (.sh (nd t766 0)), .ex (.sh (nd t766 1)), .ex (.sh (fz v1518)), .fr (fz v1528), .fr (fz v1536), .ex s2100, .ex (.sh (nd t1781 0)), .ex (.sh (nd t1781 1)), .no, .no, .no]) (j_irange1 (j_fn (j_lcons (j_v rfl) j_lnil))) .rf (fun x2101 s2100 => okq__law_all_1 a1 a2 a3 t766 v1518 v1528 v1536 t1781 x2101 s2100) (fun _ => rfl)) fun s2255 => (js_nil (by exact (.eq (.eq (.eq (.eq (.eq (.eq (.eq (.eq (.eq (.eq (.no (.no (.eq (.eq (.eq .nil))))))))))))))))))
def q__law_all_3 (a1 : PyData) (a2 : PyData) (a3 : PyData) (t766 : List PyData) (x765 : PyData) (s764 : OV) : O (OV) :=
  O.bind (O.of (R.bind (R.bind (R.ok (.sh a1)) fun e1515 => R.bind (R.bind (R.ok (.sh (nd t766 1))) fun e1513 => R.bind (R.ok []) fun l1514 => .ok (e1513 :: l1514)) fun l1516 => .ok (e1515 :: l1516)) fun l1517 => q__law_ships (l1517.map fz))) fun v1518 => O.bind (O.of (R.bind (R.bind (R.ok (.sh (fz v1518))) itR) fun z1526 => R.bind (lcR (fun x1519 => R.bind (R.bind (R.bind (R.ok (.sh a3)) fun e1522 => R.bind (R.bind (R.ok (.sh x1519)) fun e1520 => R.bind (R.ok []) fun l1521 => .ok (e1520 :: l1521)) fun l1523 => .ok (e1522 :: l1523)) fun l1524 => q__law_halo (l1524.map fz)) fun o1525 => .ok (some o1525)) z1526) fun l1527 => szR l1527.length (.lst l1527))) fun v1528 => O.bind (O.of (R.bind (R.bind (R.ok (.sh (fz v1518))) itR) fun z1534 => R.bind (lcR (fun x1529 => R.bind (R.bind (R.bind (R.ok (.sh x1529)) fun e1530 => R.bind (R.ok []) fun l1531 => .ok (e1530 :: l1531)) fun l1532 => q__law_cells (l1532.map fz)) fun o1533 => .ok (some o1533)) z1534) fun l1535 => szR l1535.length (.lst l1535))) fun v1536 => O.bind (O.of (R.bind (R.ok []) fun l1537 => szR l1537.length (.lst l1537))) fun v1538 => O.bind (O.bind (O.of (R.bind (R.ok (.sh (fz s764))) itR)) fun z2256 => forO z2256 (fun x1780 s1779 => O.bind (O.of (unT 2 (fz (.sh x1780)))) fun t1781 => q__law_all_2 a2 t766 v1518 v1528 v1536 t1781 x1780 s1779) v1538) fun s2257 => O.bind (O.of (R.ok s2257)) fun v2258 => .next v2258
theorem okq__law_all_3 (a1 : PyData) (a2 : PyData) (a3 : PyData) (t766 : List PyData) (x765 : PyData) (s764 : OV) : jS b__law_all_3 [.ex (.sh a1), .ex (.sh a2), .ex (.sh a3), .ex s764, .ex (.sh (nd t766 0)), .ex (.sh (nd t766 1)), .no, .no, .no, .no, .no, .no, .no, .no, .no] (q__law_all_3 a1 a2 a3 t766 x765 s764) (fun (s764 : OV) => [.ex (.sh a1), .ex (.sh a2), .ex (.sh a3), .ex s764, .no, .no, .no, .no, .no, .no, .no, .no, .no, .no, .no]) := by
  unfold q__law_all_3 b__law_all_3
  exact (js_seq (st1 := fun (v1518 : OV) => [.ex (.sh a1), .ex (.sh a2), .ex (.sh a3), .ex s764, .ex (.sh (nd t766 0)), .ex (.sh (nd t766 1)), .ex v1518, .no, .no, .no, .no, .no, .no, .no, .no]) (js_set (j_call okq__law_ships (j_lcons (j_v rfl) (j_lcons (j_v rfl) j_lnil)))) fun v1518 => (js_seq (st1 := fun (v1528 : OV) => [.ex (.sh a1), .ex (.sh a2), .ex (.sh a3), .ex s764, .ex (.sh (nd t766 0)), .ex (.sh (nd t766 1)), .ex (.sh (fz v1518)), .ex v1528, .no, .no, .no, .no, .no, .no, .no]) (js_set (j_lc (pc := [.ex (.sh a1), .ex (.sh a2), .ex (.sh a3), .ex s764, .ex (.sh (nd t766 0)), .ex (.sh (nd t766 1)), .ex (.sh (fz v1518)), .no, .no, .no, .no, .no, .no, .no, .no]) (j_ival (j_vx rfl)) .rf fun x1519 => (j_turn1N (j_call okq__law_halo (j_lcons (j_v rfl) (j_lcons (j_v rfl) j_lnil))) .rf))) fun v1528 => (js_seq (st1 := fun (v1536 : OV) => [.ex (.sh a1), .ex (.sh a2), .ex (.sh a3), .ex s764, .ex (.sh (nd t766 0)), .ex (.sh (nd t766 1)), .ex (.sh (fz v1518)), .ex v1528, .ex v1536, .no, .no, .no, .no, .no, .no]) (js_set (j_lc (pc := [.ex (.sh a1), .ex (.sh a2), .ex (.sh a3), .ex s764, .ex (.sh (nd t766 0)), .ex (.sh (nd t766 1)), .ex (.sh (fz v1518)), .ex v1528, .no, .no, .no, .no, .no, .no, .no]) (j_ival (j_v rfl)) .rf fun x1529 => (j_turn1N (j_call okq__law_cells (j_lcons (j_v rfl) j_lnil)) .rf))) fun v1536 => (js_seq (st1 := fun (v1538 : OV) => [.ex (.sh a1), .ex (.sh a2), .ex (.sh a3), .ex s764, .ex (.sh (nd t766 0)), .ex (.sh (nd t766 1)), .ex (.sh (fz v1518)), .ex v1528, .ex v1536, .ex v1538, .no, .no, .no, .no, .no]) (js_set (j_lst j_lnil)) fun v1538 => (js_seq (st1 := fun (s2257 : OV) => [.ex (.sh a1), .ex (.sh a2), .ex (.sh a3), .no, .ex (.sh (nd t766 0)), .ex (.sh (nd t766 1)), .ex (.sh (fz v1518)), .fr (fz v1528), .fr (fz v1536), .ex s2257, .no, .no, .no, .no, .no]) (js_for (st := fun (s1779 : OV) => [.ex (.sh a1), .ex (.sh a2), .ex (.sh a3), .no, .ex (.sh (nd t766 0)), .ex (.sh (nd t766 1)), .ex (.sh (fz v1518)), .fr (fz v1528), .fr (fz v1536), .ex s1779, .no, .no, .no, .no, .no]) (pt := fun x1780 s1779 t1781 => [.ex (.sh a1), .ex (.sh a2), .ex (.sh a3), .no, .ex (.sh (nd t766 0)), .ex (.sh (nd t766 1)), .ex (.sh (fz v1518)), .fr (fz v1528), .fr (fz v1536), .ex s1779, .ex (.sh (nd t1781 0)), .ex (.sh (nd t1781 1)), .no, .no, .no]) (j_ival (j_vx rfl)) (by exact (.eq (.eq (.eq (.no (.eq (.eq (.eq (.fr (.fr (.eq (.eq (.eq (.eq (.eq (.eq .nil)))))))))))))))) (fun x1780 s1779 => (jt_tup fun t1781 => (jts_cons (by decide) (jts_cons (by decide) jts_nil)))) (fun x1780 s1779 t1781 => okq__law_all_2 a1 a2 a3 t766 v1518 v1528 v1536 t1781 x1780 s1779) (fun _ => rfl)) fun s2257 => (js_seq (st1 := fun (v2258 : OV) => [.ex (.sh a1), .ex (.sh a2), .ex (.sh a3), .ex v2258, .ex (.sh (nd t766 0)), .ex (.sh (nd t766 1)), .ex (.sh (fz v1518)), .fr (fz v1528), .fr (fz v1536), .un, .no, .no, .no, .no, .no]) (js_set (j_m rfl)) fun v2258 => (js_nil (by exact (.eq (.eq (.eq (.eq (.no (.no (.no (.no (.no (.no (.eq (.eq (.eq (.eq (.eq .nil)))))))))))))))))))))))
def q__law_all_0 (a1 : PyData) (a2 : PyData) (a3 : PyData) : O Unit :=
  O.bind (O.of (R.bind (R.bind (R.bind (R.bind (R.bind (R.ok []) fun l4 => szR l4.length (.sh (.tuple (l4.map fz)))) fun e8 => R.bind (R.bind (R.bind (R.ok []) fun l5 => szR l5.length (.lst l5)) fun e6 => R.bind (R.ok []) fun l7 => .ok (e6 :: l7)) fun l9 => .ok (e8 :: l9)) fun l10 => szR l10.length (.sh (.tuple (l10.map fz)))) fun e11 => R.bind (R.ok []) fun l12 => .ok (e11 :: l12)) fun l13 => szR l13.length (.lst l13))) fun v14 => O.bind (O.bind (O.of (R.bind (R.ok (.sh a2)) enR)) fun z2259 => forO z2259 (fun x765 s764 => O.bind (O.of (unT 2 (fz (.sh x765)))) fun t766 => q__law_all_3 a1 a2 a3 t766 x765 s764) v14) fun s2260 => O.bind (O.of (R.bind (R.bind (R.ok (.sh (fz s2260))) itR) fun z2264 => R.bind (lcR (fun x2261 => R.bind (unT 2 (fz (.sh x2261))) fun t2262 => R.bind (R.ok (.sh (nd t2262 0))) fun o2263 => .ok (some o2263)) z2264) fun l2265 => szR l2265.length (.lst l2265))) fun o2266 => .ret o2266
theorem okq__law_all_0 (a1 : PyData) (a2 : PyData) (a3 : PyData) : jS b__law_all [.ex (.sh a1), .ex (.sh a2), .ex (.sh a3), .un, .un, .un, .un, .un, .un, .un, .un, .un, .un, .un, .un] (q__law_all_0 a1 a2 a3) (fun _ : Unit => [.no, .no, .no, .no, .no, .no, .no, .no, .no, .no, .no, .no, .no, .no, .no]) := by
  unfold q__law_all_0 b__law_all
  exact (js_seq (st1 := fun (v14 : OV) => [.ex (.sh a1), .ex (.sh a2), .ex (.sh a3), .ex v14, .un, .un, .un, .un, .un, .un, .un, .un, .un, .un, .un]) (js_set (j_lst (j_lcons (j_tup (j_lcons (j_tup j_lnil) (j_lcons (j_lst j_lnil) j_lnil))) j_lnil))) fun v14 => (js_seq (st1 := fun (s2260 : OV) => [.ex (.sh a1), .ex (.sh a2), .ex (.sh a3), .ex s2260, .no, .no, .no, .no, .no, .no, .no, .no, .no, .no, .no]) (js_for (st := fun (s764 : OV) => [.ex (.sh a1), .ex (.sh a2), .ex (.sh a3), .ex s764, .no, .no, .no, .no, .no, .no, .no, .no, .no, .no, .no]) (pt := fun x765 s764 t766 => [.ex (.sh a1), .ex (.sh a2), .ex (.sh a3), .ex s764, .ex (.sh (nd t766 0)), .ex (.sh (nd t766 1)), .no, .no, .no, .no, .no, .no, .no, .no, .no]) (j_ienum (j_v rfl)) .rf (fun x765 s764 => (jt_tup fun t766 => (jts_cons (by decide) (jts_cons (by decide) jts_nil)))) (fun x765 s764 t766 => okq__law_all_3 a1 a2 a3 t766 x765 s764) (fun _ => rfl)) fun s2260 => (js_retc (j_lc (pc := [.ex (.sh a1), .ex (.sh a2), .ex (.sh a3), .ex (.sh (fz s2260)), .no, .no, .no, .no, .no, .no, .no, .no, .no, .no, .no]) (j_ival (j_vx rfl)) .rf fun x2261 => (j_turn1 (pt := fun t2262 => [.ex (.sh a1), .ex (.sh a2), .ex (.sh a3), .ex (.sh (fz s2260)), .no, .no, .no, .no, .no, .no, .ex (.sh (nd t2262 0)), .ex (.sh (nd t2262 1)), .no, .no, .no]) (jt_tup fun t2262 => (jts_cons (by decide) (jts_cons (by decide) jts_nil))) (fun t2262 => (j_v rfl)) (fun t2262 => .rf))))))
def q__law_all : List PyData → R OV
  | [a1, a2, a3] => O.fin (q__law_all_0 a1 a2 a3)
  | _ => .stk
theorem okq__law_all : jP m__law_all q__law_all := fun ds => match ds with
  | [a1, a2, a3] => j_def (qq := q__law_all_0 a1 a2 a3) (okq__law_all_0 a1 a2 a3)
  | [] => trivial
  | [_] => trivial
  | [_, _] => trivial
  | _ :: _ :: _ :: _ :: _ => trivial
def b__law_game : Rho → Out :=
  (sCons (sAsg (hTup 7 (hCons (hName 1) (hCons (hName 2) (hCons (hName 3) (hCons (hName 4) (hCons (hName 5) (hCons (hName 6) (hCons (hName 7) hNil)))))))) (eCall m__law_drawn (lCons (eV 0) (lCons (eLst (lCons (cC (.int 4)) (lCons (cC (.int 4)) (lCons (cC (.int 4)) (lCons (cC (.int 4)) (lCons (cC (.int 4)) (lCons (cC (.int 4)) (lCons (cC (.int 3)) lNil)))))))) lNil))))
    (sCons (sSet 8 (eBin gSub (eLst (lCons (eTup (lCons (eBin gAdd (cC (.int 1)) (eV 2)) (lCons (eBin gAdd (cC (.int 1)) (eV 3)) lNil))) (lCons (eTup (lCons (eBin gAdd (cC (.int 2)) (eMod (eV 2) (cC (.int 3)))) (lCons (eBin gAdd (cC (.int 2)) (eMod (eV 3) (cC (.int 3)))) lNil))) (lCons (eTup (lCons (eBin gAdd (cC (.int 1)) (eMod (eV 2) (cC (.int 3)))) (lCons (eBin gAdd (cC (.int 3)) (eMod (eV 3) (cC (.int 2)))) lNil))) lNil)))) (eFn (gMax min2 minI) (lCons (eV 1) (lCons (cC (.int 2)) lNil)))))
    (sCons (sIf (eTest (eBin (gEq false) (eV 1) (cC (.int 3)))) (sCons (sSet 8 (eTup (lCons (cC (.int 2)) (lCons (eBin gAdd (cC (.int 2)) (eV 3)) lNil))))
    sNil) sNil)
    (sCons (sSet 9 (eBin gSub (eLst (lCons (eTup (lCons (eBin gAdd (cC (.int 1)) (eV 4)) lNil)) (lCons (eTup (lCons (eBin gAdd (cC (.int 1)) (eMod (eV 4) (cC (.int 3)))) (lCons (eBin gAdd (cC (.int 1)) (eMod (eV 5) (cC (.int 3)))) lNil))) (lCons (eTup (lCons (eBin gAdd (cC (.int 1)) (eMod (eV 4) (cC (.int 3)))) (lCons (eBin gAdd (cC (.int 1)) (eMod (eV 5) (cC (.int 2)))) (lCons (eBin gAdd (cC (.int 1)) (eMod (eV 6) (cC (.int 2)))) lNil)))) lNil)))) (eMod (eV 1) (cC (.int 3)))))
    (sCons (sIf (eTest (eBin (gEq false) (eV 1) (cC (.int 3)))) (sCons (sSet 9 (eTup (lCons (eBin gAdd (cC (.int 1)) (eMod (eV 4) (cC (.int 3)))) (lCons (eBin gAdd (cC (.int 1)) (eMod (eV 5) (cC (.int 3)))) (lCons (eBin gAdd (cC (.int 1)) (eMod (eV 6) (cC (.int 2)))) lNil)))))
    sNil) sNil)
    (sCons (sSet 9 (eFn (g1 dTuple) (lCons (eUn (fun o => dRev (fz o)) (eFn (g1 dSorted) (lCons (eV 9) lNil))) lNil)))
    (sCons (sRet (eTup (lCons (eV 8) (lCons (eV 9) (lCons (eBin gSub (eLst (lCons (cC (.str "free")) (lCons (cC (.str "sides")) (lCons (cC (.str "corners")) lNil)))) (eV 7)) lNil)))))
    sNil)))))))
def m__law_game : List PyData → Rv := runP 10 b__law_game
def q__law_game_0 (a1 : PyData) : O Unit :=
  O.bind (O.of (R.bind (R.bind (R.bind (R.ok (.sh a1)) fun e19 => R.bind (R.bind (R.bind (R.bind (R.ok (.sh (.int 4))) fun e14 => R.bind (R.bind (R.ok (.sh (.int 4))) fun e12 => R.bind (R.bind (R.ok (.sh (.int 4))) fun e10 => R.bind (R.bind (R.ok (.sh (.int 4))) fun e8 => R.bind (R.bind (R.ok (.sh (.int 4))) fun e6 => R.bind (R.bind (R.ok (.sh (.int 4))) fun e4 => R.bind (R.bind (R.ok (.sh (.int 3))) fun e2 => R.bind (R.ok []) fun l3 => .ok (e2 :: l3)) fun l5 => .ok (e4 :: l5)) fun l7 => .ok (e6 :: l7)) fun l9 => .ok (e8 :: l9)) fun l11 => .ok (e10 :: l11)) fun l13 => .ok (e12 :: l13)) fun l15 => .ok (e14 :: l15)) fun l16 => szR l16.length (.lst l16)) fun e17 => R.bind (R.ok []) fun l18 => .ok (e17 :: l18)) fun l20 => .ok (e19 :: l20)) fun l21 => q__law_drawn (l21.map fz)) fun o23 => unT 7 (fz o23))) fun t22 => O.bind (O.of (R.bind (R.bind (R.bind (R.bind (R.bind (R.bind (R.ok (.sh (.int 1))) fun e24 => R.bind (R.ok (.sh (nd t22 1))) fun e25 => ofOR (gAdd e24 e25)) fun e30 => R.bind (R.bind (R.bind (R.ok (.sh (.int 1))) fun e26 => R.bind (R.ok (.sh (nd t22 2))) fun e27 => ofOR (gAdd e26 e27)) fun e28 => R.bind (R.ok []) fun l29 => .ok (e28 :: l29)) fun l31 => .ok (e30 :: l31)) fun l32 => szR l32.length (.sh (.tuple (l32.map fz)))) fun e63 => R.bind (R.bind (R.bind (R.bind (R.bind (R.ok (.sh (.int 2))) fun e35 => R.bind (R.bind (R.ok (.sh (nd t22 1))) fun e33 => R.bind (R.ok (.sh (.int 3))) fun e34 => ofOR (gModI e33 e34)) fun e36 => ofOR (gAdd e35 e36)) fun e43 => R.bind (R.bind (R.bind (R.ok (.sh (.int 2))) fun e39 => R.bind (R.bind (R.ok (.sh (nd t22 2))) fun e37 => R.bind (R.ok (.sh (.int 3))) fun e38 => ofOR (gModI e37 e38)) fun e40 => ofOR (gAdd e39 e40)) fun e41 => R.bind (R.ok []) fun l42 => .ok (e41 :: l42)) fun l44 => .ok (e43 :: l44)) fun l45 => szR l45.length (.sh (.tuple (l45.map fz)))) fun e61 => R.bind (R.bind (R.bind (R.bind (R.bind (R.ok (.sh (.int 1))) fun e48 => R.bind (R.bind (R.ok (.sh (nd t22 1))) fun e46 => R.bind (R.ok (.sh (.int 3))) fun e47 => ofOR (gModI e46 e47)) fun e49 => ofOR (gAdd e48 e49)) fun e56 => R.bind (R.bind (R.bind (R.ok (.sh (.int 3))) fun e52 => R.bind (R.bind (R.ok (.sh (nd t22 2))) fun e50 => R.bind (R.ok (.sh (.int 2))) fun e51 => ofOR (gModI e50 e51)) fun e53 => ofOR (gAdd e52 e53)) fun e54 => R.bind (R.ok []) fun l55 => .ok (e54 :: l55)) fun l57 => .ok (e56 :: l57)) fun l58 => szR l58.length (.sh (.tuple (l58.map fz)))) fun e59 => R.bind (R.ok []) fun l60 => .ok (e59 :: l60)) fun l62 => .ok (e61 :: l62)) fun l64 => .ok (e63 :: l64)) fun l65 => szR l65.length (.lst l65)) fun e71 => R.bind (R.bind (R.bind (R.ok (.sh (nd t22 0))) fun e68 => R.bind (R.bind (R.ok (.sh (.int 2))) fun e66 => R.bind (R.ok []) fun l67 => .ok (e66 :: l67)) fun l69 => .ok (e68 :: l69)) fun l70 => ofOR ((gMax min2 minI) l70)) fun e72 => ofOR (gSub e71 e72))) fun v73 => O.bind (O.bind (O.of (R.bind (R.bind (R.ok (.sh (nd t22 0))) fun e74 => R.bind (R.ok (.sh (.int 3))) fun e75 => ofOR (gEq false e74 e75)) toBR)) fun b93 => if b93 = true then O.bind (O.of (R.bind (R.bind (R.ok (.sh (.int 2))) fun e89 => R.bind (R.bind (R.bind (R.ok (.sh (.int 2))) fun e85 => R.bind (R.ok (.sh (nd t22 2))) fun e86 => ofOR (gAdd e85 e86)) fun e87 => R.bind (R.ok []) fun l88 => .ok (e87 :: l88)) fun l90 => .ok (e89 :: l90)) fun l91 => szR l91.length (.sh (.tuple (l91.map fz))))) fun v92 => .next v92 else .next v73) fun s84 => O.bind (O.of (R.bind (R.bind (R.bind (R.bind (R.bind (R.bind (R.ok (.sh (.int 1))) fun e94 => R.bind (R.ok (.sh (nd t22 3))) fun e95 => ofOR (gAdd e94 e95)) fun e96 => R.bind (R.ok []) fun l97 => .ok (e96 :: l97)) fun l98 => szR l98.length (.sh (.tuple (l98.map fz)))) fun e135 => R.bind (R.bind (R.bind (R.bind (R.bind (R.ok (.sh (.int 1))) fun e101 => R.bind (R.bind (R.ok (.sh (nd t22 3))) fun e99 => R.bind (R.ok (.sh (.int 3))) fun e100 => ofOR (gModI e99 e100)) fun e102 => ofOR (gAdd e101 e102)) fun e109 => R.bind (R.bind (R.bind (R.ok (.sh (.int 1))) fun e105 => R.bind (R.bind (R.ok (.sh (nd t22 4))) fun e103 => R.bind (R.ok (.sh (.int 3))) fun e104 => ofOR (gModI e103 e104)) fun e106 => ofOR (gAdd e105 e106)) fun e107 => R.bind (R.ok []) fun l108 => .ok (e107 :: l108)) fun l110 => .ok (e109 :: l110)) fun l111 => szR l111.length (.sh (.tuple (l111.map fz)))) fun e133 => R.bind (R.bind (R.bind (R.bind (R.bind (R.ok (.sh (.int 1))) fun e114 => R.bind (R.bind (R.ok (.sh (nd t22 3))) fun e112 => R.bind (R.ok (.sh (.int 3))) fun e113 => ofOR (gModI e112 e113)) fun e115 => ofOR (gAdd e114 e115)) fun e128 => R.bind (R.bind (R.bind (R.ok (.sh (.int 1))) fun e118 => R.bind (R.bind (R.ok (.sh (nd t22 4))) fun e116 => R.bind (R.ok (.sh (.int 2))) fun e117 => ofOR (gModI e116 e117)) fun e119 => ofOR (gAdd e118 e119)) fun e126 => R.bind (R.bind (R.bind (R.ok (.sh (.int 1))) fun e122 => R.bind (R.bind (R.ok (.sh (nd t22 5))) fun e120 => R.bind (R.ok (.sh (.int 2))) fun e121 => ofOR (gModI e120 e121)) fun e123 => ofOR (gAdd e122 e123)) fun e124 => R.bind (R.ok []) fun l125 => .ok (e124 :: l125)) fun l127 => .ok (e126 :: l127)) fun l129 => .ok (e128 :: l129)) fun l130 => szR l130.length (.sh (.tuple (l130.map fz)))) fun e131 => R.bind (R.ok []) fun l132 => .ok (e131 :: l132)) fun l134 => .ok (e133 :: l134)) fun l136 => .ok (e135 :: l136)) fun l137 => szR l137.length (.lst l137)) fun e140 => R.bind (R.bind (R.ok (.sh (nd t22 0))) fun e138 => R.bind (R.ok (.sh (.int 3))) fun e139 => ofOR (gModI e138 e139)) fun e141 => ofOR (gSub e140 e141))) fun v142 => O.bind (O.bind (O.of (R.bind (R.bind (R.ok (.sh (nd t22 0))) fun e143 => R.bind (R.ok (.sh (.int 3))) fun e144 => ofOR (gEq false e143 e144)) toBR)) fun b186 => if b186 = true then O.bind (O.of (R.bind (R.bind (R.bind (R.ok (.sh (.int 1))) fun e168 => R.bind (R.bind (R.ok (.sh (nd t22 3))) fun e166 => R.bind (R.ok (.sh (.int 3))) fun e167 => ofOR (gModI e166 e167)) fun e169 => ofOR (gAdd e168 e169)) fun e182 => R.bind (R.bind (R.bind (R.ok (.sh (.int 1))) fun e172 => R.bind (R.bind (R.ok (.sh (nd t22 4))) fun e170 => R.bind (R.ok (.sh (.int 3))) fun e171 => ofOR (gModI e170 e171)) fun e173 => ofOR (gAdd e172 e173)) fun e180 => R.bind (R.bind (R.bind (R.ok (.sh (.int 1))) fun e176 => R.bind (R.bind (R.ok (.sh (nd t22 5))) fun e174 => R.bind (R.ok (.sh (.int 2))) fun e175 => ofOR (gModI e174 e175)) fun e177 => ofOR (gAdd e176 e177)) fun e178 => R.bind (R.ok []) fun l179 => .ok (e178 :: l179)) fun l181 => .ok (e180 :: l181)) fun l183 => .ok (e182 :: l183)) fun l184 => szR l184.length (.sh (.tuple (l184.map fz))))) fun v185 => .next v185 else .next v142) fun s165 => O.bind (O.of (R.bind (R.bind (R.bind (R.bind (R.bind (R.ok (.sh (fz s165))) fun e187 => R.bind (R.ok []) fun l188 => .ok (e187 :: l188)) fun l189 => ofOR ((g1 dSorted) l189)) fun e190 => ofOR (dRev (fz e190))) fun e191 => R.bind (R.ok []) fun l192 => .ok (e191 :: l192)) fun l193 => ofOR ((g1 dTuple) l193))) fun v194 => O.bind (O.of (R.bind (R.bind (R.ok (.sh (fz s84))) fun e208 => R.bind (R.bind (R.ok (.sh (fz v194))) fun e206 => R.bind (R.bind (R.bind (R.bind (R.bind (R.ok (.sh (.str "free"))) fun e199 => R.bind (R.bind (R.ok (.sh (.str "sides"))) fun e197 => R.bind (R.bind (R.ok (.sh (.str "corners"))) fun e195 => R.bind (R.ok []) fun l196 => .ok (e195 :: l196)) fun l198 => .ok (e197 :: l198)) fun l200 => .ok (e199 :: l200)) fun l201 => szR l201.length (.lst l201)) fun e202 => R.bind (R.ok (.sh (nd t22 6))) fun e203 => ofOR (gSub e202 e203)) fun e204 => R.bind (R.ok []) fun l205 => .ok (e204 :: l205)) fun l207 => .ok (e206 :: l207)) fun l209 => .ok (e208 :: l209)) fun l210 => szR l210.length (.sh (.tuple (l210.map fz))))) fun o211 => .ret o211
theorem okq__law_game_0 (a1 : PyData) : jS b__law_game [.ex (.sh a1), .un, .un, .un, .un, .un, .un, .un, .un, .un] (q__law_game_0 a1) (fun _ : Unit => [.no, .no, .no, .no, .no, .no, .no, .no, .no, .no]) := by
  unfold q__law_game_0 b__law_game
  exact (js_seq (st1 := fun (t22 : List PyData) => [.ex (.sh a1), .ex (.sh (nd t22 0)), .ex (.sh (nd t22 1)), .ex (.sh (nd t22 2)), .ex (.sh (nd t22 3)), .ex (.sh (nd t22 4)), .ex (.sh (nd t22 5)), .ex (.sh (nd t22 6)), .un, .un]) (js_asg (pt := fun _ _ => []) (pt' := fun t22 => [.ex (.sh a1), .ex (.sh (nd t22 0)), .ex (.sh (nd t22 1)), .ex (.sh (nd t22 2)), .ex (.sh (nd t22 3)), .ex (.sh (nd t22 4)), .ex (.sh (nd t22 5)), .ex (.sh (nd t22 6)), .un, .un]) (j_call okq__law_drawn (j_lcons (j_v rfl) (j_lcons (j_lst (j_lcons j_c (j_lcons j_c (j_lcons j_c (j_lcons j_c (j_lcons j_c (j_lcons j_c (j_lcons j_c j_lnil)))))))) j_lnil))) fun _ => (jt_tup fun t22 => (jts_cons (by decide) (jts_cons (by decide) (jts_cons (by decide) (jts_cons (by decide) (jts_cons (by decide) (jts_cons (by decide) (jts_cons (by decide) jts_nil))))))))) fun t22 => (js_seq (st1 := fun (v73 : OV) => [.ex (.sh a1), .ex (.sh (nd t22 0)), .ex (.sh (nd t22 1)), .ex (.sh (nd t22 2)), .ex (.sh (nd t22 3)), .ex (.sh (nd t22 4)), .ex (.sh (nd t22 5)), .ex (.sh (nd t22 6)), .ex v73, .un]) (js_set (j_bin (j_lst (j_lcons (j_tup (j_lcons (j_bin j_c (j_v rfl)) (j_lcons (j_bin j_c (j_v rfl)) j_lnil))) (j_lcons (j_tup (j_lcons (j_bin j_c (j_bin (j_v rfl) j_c)) (j_lcons (j_bin j_c (j_bin (j_v rfl) j_c)) j_lnil))) (j_lcons (j_tup (j_lcons (j_bin j_c (j_bin (j_v rfl) j_c)) (j_lcons (j_bin j_c (j_bin (j_v rfl) j_c)) j_lnil))) j_lnil)))) (j_fn (j_lcons (j_v rfl) (j_lcons j_c j_lnil))))) fun v73 => (js_seq (st1 := fun (s84 : OV) => [.no, .ex (.sh (nd t22 0)), .no, .no, .ex (.sh (nd t22 3)), .ex (.sh (nd t22 4)), .ex (.sh (nd t22 5)), .ex (.sh (nd t22 6)), .ex s84, .no]) (js_if (j_test (j_bin (j_v rfl) j_c)) (js_seq (st1 := fun (v92 : OV) => [.ex (.sh a1), .ex (.sh (nd t22 0)), .ex (.sh (nd t22 1)), .ex (.sh (nd t22 2)), .ex (.sh (nd t22 3)), .ex (.sh (nd t22 4)), .ex (.sh (nd t22 5)), .ex (.sh (nd t22 6)), .ex v92, .un]) (js_set (j_tup (j_lcons j_c (j_lcons (j_bin j_c (j_v rfl)) j_lnil)))) fun v92 => (js_nil (by exact (.no (.eq (.no (.no (.eq (.eq (.eq (.eq (.eq (.no .nil))))))))))))) (js_nil (by exact (.no (.eq (.no (.no (.eq (.eq (.eq (.eq (.eq (.no .nil))))))))))))) fun s84 => (js_seq (st1 := fun (v142 : OV) => [.no, .ex (.sh (nd t22 0)), .no, .no, .ex (.sh (nd t22 3)), .ex (.sh (nd t22 4)), .ex (.sh (nd t22 5)), .ex (.sh (nd t22 6)), .ex s84, .ex v142]) (js_set (j_bin (j_lst (j_lcons (j_tup (j_lcons (j_bin j_c (j_v rfl)) j_lnil)) (j_lcons (j_tup (j_lcons (j_bin j_c (j_bin (j_v rfl) j_c)) (j_lcons (j_bin j_c (j_bin (j_v rfl) j_c)) j_lnil))) (j_lcons (j_tup (j_lcons (j_bin j_c (j_bin (j_v rfl) j_c)) (j_lcons (j_bin j_c (j_bin (j_v rfl) j_c)) (j_lcons (j_bin j_c (j_bin (j_v rfl) j_c)) j_lnil)))) j_lnil)))) (j_bin (j_v rfl) j_c))) fun v142 => (js_seq (st1 := fun (s165 : OV) => [.no, .no, .no, .no, .no, .no, .no, .ex (.sh (nd t22 6)), .ex s84, .ex s165]) (js_if (j_test (j_bin (j_v rfl) j_c)) (js_seq (st1 := fun (v185 : OV) => [.no, .ex (.sh (nd t22 0)), .no, .no, .ex (.sh (nd t22 3)), .ex (.sh (nd t22 4)), .ex (.sh (nd t22 5)), .ex (.sh (nd t22 6)), .ex s84, .ex v185]) (js_set (j_tup (j_lcons (j_bin j_c (j_bin (j_v rfl) j_c)) (j_lcons (j_bin j_c (j_bin (j_v rfl) j_c)) (j_lcons (j_bin j_c (j_bin (j_v rfl) j_c)) j_lnil))))) fun v185 => (js_nil (by exact (.eq (.no (.eq (.eq (.no (.no (.no (.eq (.eq (.eq .nil))))))))))))) (js_nil (by exact (.eq (.no (.eq (.eq (.no (.no (.no (.eq (.eq (.eq .nil))))))))))))) fun s165 => (js_seq (st1 := fun (v194 : OV) => [.no, .no, .no, .no, .no, .no, .no, .ex (.sh (nd t22 6)), .ex s84, .ex v194]) (js_set (j_fn (j_lcons (j_un (j_fn (j_lcons (j_vx rfl) j_lnil))) j_lnil))) fun v194 => (js_retc (j_tup (j_lcons (j_vx rfl) (j_lcons (j_vx rfl) (j_lcons (j_bin (j_lst (j_lcons j_c (j_lcons j_c (j_lcons j_c j_lnil)))) (j_v rfl)) j_lnil)))))))))))
def q__law_game : List PyData → R OV
  | [a1] => O.fin (q__law_game_0 a1)
  | _ => .stk
theorem okq__law_game : jP m__law_game q__law_game := fun ds => match ds with
  | [a1] => j_def (qq := q__law_game_0 a1) (okq__law_game_0 a1)
  | [] => trivial
  | _ :: _ :: _ => trivial
def b__law_played : Rho → Out :=
  (sCons (sAsg (hTup 3 (hCons (hName 1) (hCons (hName 2) (hCons (hName 3) hNil)))) (eCall m__law_game (lCons (eV 0) lNil)))
    (sCons (sSet 4 (eCall m__law_all (lCons (eV 1) (lCons (eV 2) (lCons (eV 3) lNil)))))
    (sCons (sIf (eTest (eBin (gEq false) (eV 4) (eLst lNil))) (sCons (sSet 2 (eTup (lCons (cC (.int 1)) lNil)))
    (sCons (sSet 4 (eCall m__law_all (lCons (eV 1) (lCons (eV 2) (lCons (eV 3) lNil)))))
    sNil)) sNil)
    (sCons (sRet (eTup (lCons (eV 1) (lCons (eV 2) (lCons (eV 3) (lCons (eV 4) lNil))))))
    sNil))))
def m__law_played : List PyData → Rv := runP 5 b__law_played
def q__law_played_0 (a1 : PyData) : O Unit :=
  O.bind (O.of (R.bind (R.bind (R.bind (R.ok (.sh a1)) fun e2 => R.bind (R.ok []) fun l3 => .ok (e2 :: l3)) fun l4 => q__law_game (l4.map fz)) fun o6 => unT 3 (fz o6))) fun t5 => O.bind (O.of (R.bind (R.bind (R.ok (.sh (nd t5 0))) fun e11 => R.bind (R.bind (R.ok (.sh (nd t5 1))) fun e9 => R.bind (R.bind (R.ok (.sh (nd t5 2))) fun e7 => R.bind (R.ok []) fun l8 => .ok (e7 :: l8)) fun l10 => .ok (e9 :: l10)) fun l12 => .ok (e11 :: l12)) fun l13 => q__law_all (l13.map fz))) fun v14 => O.bind (O.bind (O.of (R.bind (R.bind (R.ok (.sh (fz v14))) fun e16 => R.bind (R.bind (R.ok []) fun l15 => szR l15.length (.lst l15)) fun e17 => ofOR (gEq false e16 e17)) toBR)) fun b43 => if b43 = true then O.bind (O.of (R.bind (R.bind (R.ok (.sh (.int 1))) fun e31 => R.bind (R.ok []) fun l32 => .ok (e31 :: l32)) fun l33 => szR l33.length (.sh (.tuple (l33.map fz))))) fun v34 => O.bind (O.of (R.bind (R.bind (R.ok (.sh (nd t5 0))) fun e39 => R.bind (R.bind (R.ok (.sh (fz v34))) fun e37 => R.bind (R.bind (R.ok (.sh (nd t5 2))) fun e35 => R.bind (R.ok []) fun l36 => .ok (e35 :: l36)) fun l38 => .ok (e37 :: l38)) fun l40 => .ok (e39 :: l40)) fun l41 => q__law_all (l41.map fz))) fun v42 => .next ((fz v34), v42) else .next ((nd t5 1), (.sh (fz v14)))) fun s30 => O.bind (O.of (R.bind (R.bind (R.ok (.sh (nd t5 0))) fun e50 => R.bind (R.bind (R.ok (.sh s30.1)) fun e48 => R.bind (R.bind (R.ok (.sh (nd t5 2))) fun e46 => R.bind (R.bind (R.ok (.sh (fz s30.2))) fun e44 => R.bind (R.ok []) fun l45 => .ok (e44 :: l45)) fun l47 => .ok (e46 :: l47)) fun l49 => .ok (e48 :: l49)) fun l51 => .ok (e50 :: l51)) fun l52 => szR l52.length (.sh (.tuple (l52.map fz))))) fun o53 => .ret o53
theorem okq__law_played_0 (a1 : PyData) : jS b__law_played [.ex (.sh a1), .un, .un, .un, .un] (q__law_played_0 a1) (fun _ : Unit => [.no, .no, .no, .no, .no]) := by
  unfold q__law_played_0 b__law_played
  exact (js_seq (st1 := fun (t5 : List PyData) => [.ex (.sh a1), .ex (.sh (nd t5 0)), .ex (.sh (nd t5 1)), .ex (.sh (nd t5 2)), .un]) (js_asg (pt := fun _ _ => []) (pt' := fun t5 => [.ex (.sh a1), .ex (.sh (nd t5 0)), .ex (.sh (nd t5 1)), .ex (.sh (nd t5 2)), .un]) (j_call okq__law_game (j_lcons (j_v rfl) j_lnil)) fun _ => (jt_tup fun t5 => (jts_cons (by decide) (jts_cons (by decide) (jts_cons (by decide) jts_nil))))) fun t5 => (js_seq (st1 := fun (v14 : OV) => [.ex (.sh a1), .ex (.sh (nd t5 0)), .ex (.sh (nd t5 1)), .ex (.sh (nd t5 2)), .ex v14]) (js_set (j_call okq__law_all (j_lcons (j_v rfl) (j_lcons (j_v rfl) (j_lcons (j_v rfl) j_lnil))))) fun v14 => (js_seq (st1 := fun (s30 : PyData × OV) => [.no, .ex (.sh (nd t5 0)), .ex (.sh s30.1), .ex (.sh (nd t5 2)), .ex s30.2]) (js_if (j_test (j_bin (j_vx rfl) (j_lst j_lnil))) (js_seq (st1 := fun (v34 : OV) => [.ex (.sh a1), .ex (.sh (nd t5 0)), .ex v34, .ex (.sh (nd t5 2)), .ex (.sh (fz v14))]) (js_set (j_tup (j_lcons j_c j_lnil))) fun v34 => (js_seq (st1 := fun (v42 : OV) => [.ex (.sh a1), .ex (.sh (nd t5 0)), .ex (.sh (fz v34)), .ex (.sh (nd t5 2)), .ex v42]) (js_set (j_call okq__law_all (j_lcons (j_v rfl) (j_lcons (j_vx rfl) (j_lcons (j_v rfl) j_lnil))))) fun v42 => (js_nil (by exact (.no (.eq (.eq (.eq (.eq .nil))))))))) (js_nil (by exact (.no (.eq (.eq (.eq (.eq .nil)))))))) fun s30 => (js_retc (j_tup (j_lcons (j_v rfl) (j_lcons (j_v rfl) (j_lcons (j_v rfl) (j_lcons (j_vx rfl) j_lnil)))))))))
def q__law_played : List PyData → R OV
  | [a1] => O.fin (q__law_played_0 a1)
  | _ => .stk
theorem okq__law_played : jP m__law_played q__law_played := fun ds => match ds with
  | [a1] => j_def (qq := q__law_played_0 a1) (okq__law_played_0 a1)
  | [] => trivial
  | _ :: _ :: _ => trivial
def b_near_ships_1 : Rho → Out :=
  (sCons (sIf (bNot (eTest (eCall m_keep (lCons (eV 0) (lCons (eV 6) (lCons (eV 7) lNil)))))) (sCons (sSetIx2 4 (cC (.bool true)) (eV 6) (eV 7))
    sNil) sNil)
    sNil)
def b_near_ships_2 : Rho → Out :=
  (sCons (sIf (eTest (eBR (gInP true) (eV 6) 4)) (sCons (sSetIx 4 eDT (eV 6))
    (sCons (sFor [7] (iVal (eV 1)) (hName 7) b_near_ships_1)
    sNil)) sNil)
    sNil)
def b_near_ships_3 : Rho → Out :=
  (sCons (sFor [6, 7] (iVal (eCall m_ships_of (lCons (eV 2) (lCons (eV 5) lNil)))) (hName 6) b_near_ships_2)
    sNil)
def b_near_ships : Rho → Out :=
  (sCons (sSet 4 eDT)
    (sCons (sFor [5, 6, 7] (iVal (eV 3)) (hName 5) b_near_ships_3)
    (sCons (sRet (eM 4))
    sNil)))
def m_near_ships : List PyData → Rv := runP 8 b_near_ships
def q_near_ships_1 (a1 : PyData) (x1027 : PyData) (x1266 : PyData) (s1265 : OV) : O (OV) :=
  O.bind (O.bind (O.of (R.bind (R.bind (R.bind (R.bind (R.ok (.sh a1)) fun e1291 => R.bind (R.bind (R.ok (.sh x1027)) fun e1289 => R.bind (R.bind (R.ok (.sh x1266)) fun e1287 => R.bind (R.ok []) fun l1288 => .ok (e1287 :: l1288)) fun l1290 => .ok (e1289 :: l1290)) fun l1292 => .ok (e1291 :: l1292)) fun l1293 => q_keep (l1293.map fz)) toBR) fun b1294 => .ok (!b1294))) fun b1306 => if b1306 = true then O.bind (O.of (R.bind (R.ok (.sh (.bool true))) fun o1302 => R.bind (R.ok (.sh x1027)) fun k1303 => R.bind (subR s1265 k1303) fun o1304 => R.bind (noX (R.ok (.sh x1266))) fun k1305 => setR2 s1265 k1303 o1304 k1305 o1302)) fun v1301 => .next v1301 else .next s1265) fun s1300 => .next s1300
theorem okq_near_ships_1 (a1 : PyData) (a2 : PyData) (a3 : PyData) (x1027 : PyData) (x1266 : PyData) (s1265 : OV) : jS b_near_ships_1 [.ex (.sh a1), .ex (.sh a2), .ex (.sh a3), .no, .ex s1265, .no, .ex (.sh x1027), .ex (.sh x1266)] (q_near_ships_1 a1 x1027 x1266 s1265) (fun (s1265 : OV) => [.ex (.sh a1), .ex (.sh a2), .ex (.sh a3), .no, .ex s1265, .no, .ex (.sh x1027), .no]) := by
  unfold q_near_ships_1 b_near_ships_1
  exact (js_seq (st1 := fun (s1300 : OV) => [.ex (.sh a1), .ex (.sh a2), .ex (.sh a3), .no, .ex s1300, .no, .ex (.sh x1027), .no]) (js_if (j_not (j_test (j_call okq_keep (j_lcons (j_v rfl) (j_lcons (j_v rfl) (j_lcons (j_v rfl) j_lnil)))))) (js_seq (st1 := fun (v1301 : OV) => [.ex (.sh a1), .ex (.sh a2), .ex (.sh a3), .no, .ex v1301, .no, .ex (.sh x1027), .ex (.sh x1266)]) (js_setIx2 j_c rfl rfl (j_v rfl) rfl (j_v rfl) rfl) fun v1301 => (js_nil (by exact (.eq (.eq (.eq (.eq (.eq (.eq (.eq (.no .nil))))))))))) (js_nil (by exact (.eq (.eq (.eq (.eq (.eq (.eq (.eq (.no .nil))))))))))) fun s1300 => (js_nil .rf))
def q_near_ships_2 (a1 : PyData) (a2 : PyData) (x1027 : PyData) (s1026 : OV) : O (OV) :=
  O.bind (O.bind (O.of (R.bind (R.bind (R.ok (.sh x1027)) fun e1169 => ofPR (gInP true (fz e1169) (fz s1026))) toBR)) fun b1309 => if b1309 = true then O.bind (O.of (R.bind (R.ok (.dt [])) fun o1241 => R.bind (R.ok (.sh x1027)) fun k1242 => setR s1026 k1242 o1241)) fun v1240 => O.bind (O.bind (O.of (R.bind (R.ok (.sh a2)) itR)) fun z1307 => forO z1307 (fun x1266 s1265 => q_near_ships_1 a1 x1027 x1266 s1265) v1240) fun s1308 => .next s1308 else .next s1026) fun s1239 => .next s1239
theorem okq_near_ships_2 (a1 : PyData) (a2 : PyData) (a3 : PyData) (x1027 : PyData) (s1026 : OV) : jS b_near_ships_2 [.ex (.sh a1), .ex (.sh a2), .ex (.sh a3), .no, .ex s1026, .no, .ex (.sh x1027), .no] (q_near_ships_2 a1 a2 x1027 s1026) (fun (s1026 : OV) => [.ex (.sh a1), .ex (.sh a2), .ex (.sh a3), .no, .ex s1026, .no, .no, .no]) := by
  unfold q_near_ships_2 b_near_ships_2
  exact (js_seq (st1 := fun (s1239 : OV) => [.ex (.sh a1), .ex (.sh a2), .ex (.sh a3), .no, .ex s1239, .no, .no, .no]) (js_if (j_test (j_bR (j_v rfl) rfl rfl)) (js_seq (st1 := fun (v1240 : OV) => [.ex (.sh a1), .ex (.sh a2), .ex (.sh a3), .no, .ex v1240, .no, .ex (.sh x1027), .no]) (js_setIx j_dT rfl rfl (j_v rfl) rfl) fun v1240 => (js_seq (st1 := fun (s1308 : OV) => [.ex (.sh a1), .ex (.sh a2), .ex (.sh a3), .no, .ex s1308, .no, .ex (.sh x1027), .no]) (js_forN (st := fun (s1265 : OV) => [.ex (.sh a1), .ex (.sh a2), .ex (.sh a3), .no, .ex s1265, .no, .ex (.sh x1027), .no]) (j_ival (j_v rfl)) .rf (fun x1266 s1265 => okq_near_ships_1 a1 a2 a3 x1027 x1266 s1265) (fun _ => rfl)) fun s1308 => (js_nil (by exact (.eq (.eq (.eq (.eq (.eq (.eq (.no (.eq .nil)))))))))))) (js_nil (by exact (.eq (.eq (.eq (.eq (.eq (.eq (.no (.eq .nil))))))))))) fun s1239 => (js_nil .rf))
def q_near_ships_3 (a1 : PyData) (a2 : PyData) (a3 : PyData) (x443 : PyData) (s442 : OV) : O (OV) :=
  O.bind (O.bind (O.of (R.bind (R.bind (R.bind (R.ok (.sh a3)) fun e880 => R.bind (R.bind (R.ok (.sh x443)) fun e878 => R.bind (R.ok []) fun l879 => .ok (e878 :: l879)) fun l881 => .ok (e880 :: l881)) fun l882 => q_ships_of (l882.map fz)) itR)) fun z1310 => forO z1310 (fun x1027 s1026 => q_near_ships_2 a1 a2 x1027 s1026) s442) fun s1311 => .next s1311
theorem okq_near_ships_3 (a1 : PyData) (a2 : PyData) (a3 : PyData) (x443 : PyData) (s442 : OV) : jS b_near_ships_3 [.ex (.sh a1), .ex (.sh a2), .ex (.sh a3), .no, .ex s442, .ex (.sh x443), .no, .no] (q_near_ships_3 a1 a2 a3 x443 s442) (fun (s442 : OV) => [.ex (.sh a1), .ex (.sh a2), .ex (.sh a3), .no, .ex s442, .no, .no, .no]) := by
  unfold q_near_ships_3 b_near_ships_3
  exact (js_seq (st1 := fun (s1311 : OV) => [.ex (.sh a1), .ex (.sh a2), .ex (.sh a3), .no, .ex s1311, .no, .no, .no]) (js_forN (st := fun (s1026 : OV) => [.ex (.sh a1), .ex (.sh a2), .ex (.sh a3), .no, .ex s1026, .no, .no, .no]) (j_ival (j_call okq_ships_of (j_lcons (j_v rfl) (j_lcons (j_v rfl) j_lnil)))) (by exact (.eq (.eq (.eq (.eq (.eq (.no (.eq (.eq .nil))))))))) (fun x1027 s1026 => okq_near_ships_2 a1 a2 a3 x1027 s1026) (fun _ => rfl)) fun s1311 => (js_nil .rf))
def q_near_ships_0 (a1 : PyData) (a2 : PyData) (a3 : PyData) (a4 : PyData) : O Unit :=
  O.bind (O.of (R.ok (.dt []))) fun v5 => O.bind (O.bind (O.of (R.bind (R.ok (.sh a4)) itR)) fun z1312 => forO z1312 (fun x443 s442 => q_near_ships_3 a1 a2 a3 x443 s442) v5) fun s1313 => O.bind (O.of (R.ok s1313)) fun o1314 => .ret o1314
theorem okq_near_ships_0 (a1 : PyData) (a2 : PyData) (a3 : PyData) (a4 : PyData) : jS b_near_ships [.ex (.sh a1), .ex (.sh a2), .ex (.sh a3), .ex (.sh a4), .un, .un, .un, .un] (q_near_ships_0 a1 a2 a3 a4) (fun _ : Unit => [.no, .no, .no, .no, .no, .no, .no, .no]) := by
  unfold q_near_ships_0 b_near_ships
  exact (js_seq (st1 := fun (v5 : OV) => [.ex (.sh a1), .ex (.sh a2), .ex (.sh a3), .ex (.sh a4), .ex v5, .un, .un, .un]) (js_set j_dT) fun v5 => (js_seq (st1 := fun (s1313 : OV) => [.ex (.sh a1), .ex (.sh a2), .ex (.sh a3), .no, .ex s1313, .no, .no, .no]) (js_forN (st := fun (s442 : OV) => [.ex (.sh a1), .ex (.sh a2), .ex (.sh a3), .no, .ex s442, .no, .no, .no]) (j_ival (j_v rfl)) (by exact (.eq (.eq (.eq (.no (.eq (.eq (.eq (.eq .nil))))))))) (fun x443 s442 => okq_near_ships_3 a1 a2 a3 x443 s442) (fun _ => rfl)) fun s1313 => (js_retc (j_m rfl))))
def q_near_ships : List PyData → R OV
  | [a1, a2, a3, a4] => O.fin (q_near_ships_0 a1 a2 a3 a4)
  | _ => .stk
theorem okq_near_ships : jP m_near_ships q_near_ships := fun ds => match ds with
  | [a1, a2, a3, a4] => j_def (qq := q_near_ships_0 a1 a2 a3 a4) (okq_near_ships_0 a1 a2 a3 a4)
  | [] => trivial
  | [_] => trivial
  | [_, _] => trivial
  | [_, _, _] => trivial
  | _ :: _ :: _ :: _ :: _ :: _ => trivial
def b_all_hidings_1 : Rho → Out :=
  (sCons (sIf (bAnd (bOr (eTest (eUn (gIs false) (eV 10))) (eTest (eBin (gGt) (eV 11) (eV 10)))) (bNot (eTest (eFn (g1 (dAll fun bs => bs.any id)) (lCons (eLc [12] (iVal (eV 9)) (hName 12) tYesR (eBin (gIn false) (eV 11) (eBin gSub (eV 7) (eV 12)))) lNil))))) (sCons (sExpr (eMut 8 "list" mApp (lCons (eBin gAdd (eV 9) (eTup (lCons (eV 11) lNil))) lNil)))
    sNil) sNil)
    sNil)
def b_all_hidings_2 : Rho → Out :=
  (sCons (sSet 10 (cC .none))
    (sCons (sIf (bAnd (eTest (eBin (gGt) (eV 4) (cC (.int 0)))) (eTest (eBin (gEq false) (eBin gSub (eV 1) (eSub (eV 4) (cC (.int 1)))) (eV 5)))) (sCons (sSet 10 (eBin gSub (eV 9) (eNeg (cC (.int 1)))))
    sNil) sNil)
    (sCons (sFor [11, 12] (iVal (eV 6)) (hName 11) b_all_hidings_1)
    sNil)))
def b_all_hidings_3 : Rho → Out :=
  (sCons (sSet 6 (eCall m_ships_of (lCons (eV 0) (lCons (eV 5) lNil))))
    (sCons (sSet 7 (eCall m_near_ships (lCons (eV 2) (lCons (eV 6) (lCons (eV 0) (lCons (eSl (eV 1) none (some (eV 4))) lNil))))))
    (sCons (sSet 8 (eLst lNil))
    (sCons (sFor [9, 10, 11, 12] (iVal (eV 3)) (hName 9) b_all_hidings_2)
    (sCons (sSet 3 (eM 8))
    sNil)))))
def b_all_hidings : Rho → Out :=
  (sCons (sSet 3 (eLst (lCons (eTup lNil) lNil)))
    (sCons (sFor [4, 5, 6, 7, 8, 9, 10, 11, 12] (iEnumA (eV 1)) (hTup 2 (hCons (hName 4) (hCons (hName 5) hNil))) b_all_hidings_3)
    (sCons (sRet (eM 3))
    sNil)))
def m_all_hidings : List PyData → Rv := runP 13 b_all_hidings
def q_all_hidings_1 (v963 : OV) (x1117 : PyData) (s1275 : OV) (x1323 : PyData) (s1322 : OV) : O (OV) :=
  O.bind (O.bind (O.of (R.bind (R.bind (R.bind (R.bind (R.ok (.sh (fz s1275))) fun e1363 => ofOR (gIs false e1363)) toBR) fun b1366 => if b1366 = true then .ok true else (R.bind (R.bind (R.ok (.sh x1323)) fun e1364 => R.bind (R.ok (.sh (fz s1275))) fun e1365 => ofOR (gGt e1364 e1365)) toBR)) fun b1379 => if b1379 = true then (R.bind (R.bind (R.bind (R.bind (R.bind (R.bind (R.ok (.sh x1117)) itR) fun z1373 => R.bind (lcR (fun x1367 => R.bind (R.bind (R.ok (.sh x1323)) fun e1370 => R.bind (R.bind (R.ok (.sh (fz v963))) fun e1368 => R.bind (R.ok (.sh x1367)) fun e1369 => ofOR (gSub e1368 e1369)) fun e1371 => ofOR (gIn false e1370 e1371)) fun o1372 => .ok (some o1372)) z1373) fun l1374 => szR l1374.length (.lst l1374)) fun e1375 => R.bind (R.ok []) fun l1376 => .ok (e1375 :: l1376)) fun l1377 => ofOR ((g1 (dAll fun bs => bs.any id)) l1377)) toBR) fun b1378 => .ok (!b1378)) else .ok false)) fun b1401 => if b1401 = true then O.bind (O.of (R.bind (ownR "list" s1322) fun _ => R.bind (R.bind (R.bind (R.ok (.sh x1117)) fun e1394 => R.bind (R.bind (R.bind (R.ok (.sh x1323)) fun e1391 => R.bind (R.ok []) fun l1392 => .ok (e1391 :: l1392)) fun l1393 => szR l1393.length (.sh (.tuple (l1393.map fz)))) fun e1395 => ofOR (gAdd e1394 e1395)) fun e1396 => R.bind (R.ok []) fun l1397 => .ok (e1396 :: l1397)) fun l1399 => R.bind (mutR mApp s1322 l1399) fun r1400 => .ok r1400.1)) fun v1398 => .next v1398 else .next s1322) fun s1390 => .next s1390
theorem okq_all_hidings_1 (a1 : PyData) (a2 : PyData) (a3 : PyData) (t478 : List PyData) (v948 : OV) (v963 : OV) (x1117 : PyData) (s1275 : OV) (x1323 : PyData) (s1322 : OV) : jS b_all_hidings_1 [.ex (.sh a1), .ex (.sh a2), .ex (.sh a3), .no, .ex (.sh (nd t478 0)), .ex (.sh (nd t478 1)), .ex (.sh (fz v948)), .fr (fz v963), .ex s1322, .ex (.sh x1117), .fr (fz s1275), .ex (.sh x1323), .no] (q_all_hidings_1 v963 x1117 s1275 x1323 s1322) (fun (s1322 : OV) => [.ex (.sh a1), .ex (.sh a2), .ex (.sh a3), .no, .ex (.sh (nd t478 0)), .ex (.sh (nd t478 1)), .ex (.sh (fz v948)), .fr (fz v963), .ex s1322, .ex (.sh x1117), .fr (fz s1275), .no, .no]) := by
  unfold q_all_hidings_1 b_all_hidings_1
  exact (js_seq (st1 := fun (s1390 : OV) => [.ex (.sh a1), .ex (.sh a2), .ex (.sh a3), .no, .ex (.sh (nd t478 0)), .ex (.sh (nd t478 1)), .ex (.sh (fz v948)), .fr (fz v963), .ex s1390, .ex (.sh x1117), .fr (fz s1275), .no, .no]) (js_if (j_band (j_bor (j_test (j_un (j_vf rfl))) (j_test (j_bin (j_v rfl) (j_vf rfl))) .rf) (j_not (j_test (j_fn (j_lcons (j_lc (pc := [.ex (.sh a1), .ex (.sh a2), .ex (.sh a3), .no, .ex (.sh (nd t478 0)), .ex (.sh (nd t478 1)), .ex (.sh (fz v948)), .fr (fz v963), .ex s1322, .ex (.sh x1117), .fr (fz s1275), .ex (.sh x1323), .no]) (j_ival (j_v rfl)) .rf fun x1367 => (j_turn1N (j_bin (j_v rfl) (j_bin (j_vf rfl) (j_v rfl))) .rf)) j_lnil)))) .rf) (js_seq (st1 := fun (v1398 : OV) => [.ex (.sh a1), .ex (.sh a2), .ex (.sh a3), .no, .ex (.sh (nd t478 0)), .ex (.sh (nd t478 1)), .ex (.sh (fz v948)), .fr (fz v963), .ex v1398, .ex (.sh x1117), .fr (fz s1275), .ex (.sh x1323), .no]) (js_mut rfl (j_lcons (j_bin (j_v rfl) (j_tup (j_lcons (j_v rfl) j_lnil))) j_lnil) rfl) fun v1398 => (js_nil (by exact (.eq (.eq (.eq (.eq (.eq (.eq (.eq (.eq (.eq (.eq (.eq (.no (.eq .nil)))))))))))))))) (js_nil (by exact (.eq (.eq (.eq (.eq (.eq (.eq (.eq (.eq (.eq (.eq (.eq (.no (.eq .nil)))))))))))))))) fun s1390 => (js_nil .rf))
def q_all_hidings_2 (a2 : PyData) (t478 : List PyData) (v948 : OV) (v963 : OV) (x1117 : PyData) (s1116 : OV) : O (OV) :=
  O.bind (O.of (R.ok (.sh .none))) fun v1261 => O.bind (O.bind (O.of (R.bind (R.bind (R.bind (R.ok (.sh (nd t478 0))) fun e1262 => R.bind (R.ok (.sh (.int 0))) fun e1263 => ofOR (gGt e1262 e1263)) toBR) fun b1270 => if b1270 = true then (R.bind (R.bind (R.bind (R.ok (.sh a2)) fun e1266 => R.bind (R.bind (R.ok (.sh (nd t478 0))) fun e1264 => R.bind (R.ok (.sh (.int 1))) fun e1265 => ofOR (gSubI e1264 e1265)) fun e1267 => ofOR (gSub e1266 e1267)) fun e1268 => R.bind (R.ok (.sh (nd t478 1))) fun e1269 => ofOR (gEq false e1268 e1269)) toBR) else .ok false)) fun b1280 => if b1280 = true then O.bind (O.of (R.bind (R.ok (.sh x1117)) fun e1277 => R.bind (R.bind (R.ok (.sh (.int 1))) fun e1276 => ofOR ((gI fun i => .int (-i)) e1276)) fun e1278 => ofOR (gSub e1277 e1278))) fun v1279 => .next v1279 else .next v1261) fun s1275 => O.bind (O.bind (O.of (R.bind (R.ok (.sh (fz v948))) itR)) fun z1402 => forO z1402 (fun x1323 s1322 => q_all_hidings_1 v963 x1117 s1275 x1323 s1322) s1116) fun s1403 => .next s1403
theorem okq_all_hidings_2 (a1 : PyData) (a2 : PyData) (a3 : PyData) (t478 : List PyData) (v948 : OV) (v963 : OV) (x1117 : PyData) (s1116 : OV) : jS b_all_hidings_2 [.ex (.sh a1), .ex (.sh a2), .ex (.sh a3), .no, .ex (.sh (nd t478 0)), .ex (.sh (nd t478 1)), .ex (.sh (fz v948)), .fr (fz v963), .ex s1116, .ex (.sh x1117), .no, .no, .no] (q_all_hidings_2 a2 t478 v948 v963 x1117 s1116) (fun (s1116 : OV) => [.ex (.sh a1), .ex (.sh a2), .ex (.sh a3), .no, .ex (.sh (nd t478 0)), .ex (.sh (nd t478 1)), .ex (.sh (fz v948)), .fr (fz v963), .ex s1116, .no, .no, .no, .no]) := by
  unfold q_all_hidings_2 b_all_hidings_2
  exact (js_seq (st1 := fun (v1261 : OV) => [.ex (.sh a1), .ex (.sh a2), .ex (.sh a3), .no, .ex (.sh (nd t478 0)), .ex (.sh (nd t478 1)), .ex (.sh (fz v948)), .fr (fz v963), .ex s1116, .ex (.sh x1117), .ex v1261, .no, .no]) (js_set j_c) fun v1261 => (js_seq (st1 := fun (s1275 : OV) => [.ex (.sh a1), .ex (.sh a2), .ex (.sh a3), .no, .ex (.sh (nd t478 0)), .ex (.sh (nd t478 1)), .ex (.sh (fz v948)), .fr (fz v963), .ex s1116, .ex (.sh x1117), .ex s1275, .no, .no]) (js_if (j_band (j_test (j_bin (j_v rfl) j_c)) (j_test (j_bin (j_bin (j_v rfl) (j_bin (j_v rfl) j_c)) (j_v rfl))) .rf) (js_seq (st1 := fun (v1279 : OV) => [.ex (.sh a1), .ex (.sh a2), .ex (.sh a3), .no, .ex (.sh (nd t478 0)), .ex (.sh (nd t478 1)), .ex (.sh (fz v948)), .fr (fz v963), .ex s1116, .ex (.sh x1117), .ex v1279, .no, .no]) (js_set (j_bin (j_v rfl) (j_un j_c))) fun v1279 => (js_nil .rf)) (js_nil .rf)) fun s1275 => (js_seq (st1 := fun (s1403 : OV) => [.ex (.sh a1), .ex (.sh a2), .ex (.sh a3), .no, .ex (.sh (nd t478 0)), .ex (.sh (nd t478 1)), .ex (.sh (fz v948)), .fr (fz v963), .ex s1403, .ex (.sh x1117), .fr (fz s1275), .no, .no]) (js_forN (st := fun (s1322 : OV) => [.ex (.sh a1), .ex (.sh a2), .ex (.sh a3), .no, .ex (.sh (nd t478 0)), .ex (.sh (nd t478 1)), .ex (.sh (fz v948)), .fr (fz v963), .ex s1322, .ex (.sh x1117), .fr (fz s1275), .no, .no]) (j_ival (j_v rfl)) (by exact (.eq (.eq (.eq (.eq (.eq (.eq (.eq (.eq (.eq (.eq (.fr (.eq (.eq .nil)))))))))))))) (fun x1323 s1322 => okq_all_hidings_1 a1 a2 a3 t478 v948 v963 x1117 s1275 x1323 s1322) (fun _ => rfl)) fun s1403 => (js_nil (by exact (.eq (.eq (.eq (.eq (.eq (.eq (.eq (.eq (.eq (.no (.no (.eq (.eq .nil))))))))))))))))))
def q_all_hidings_3 (a1 : PyData) (a2 : PyData) (a3 : PyData) (t478 : List PyData) (x477 : PyData) (s476 : OV) : O (OV) :=
  O.bind (O.of (R.bind (R.bind (R.ok (.sh a1)) fun e945 => R.bind (R.bind (R.ok (.sh (nd t478 1))) fun e943 => R.bind (R.ok []) fun l944 => .ok (e943 :: l944)) fun l946 => .ok (e945 :: l946)) fun l947 => q_ships_of (l947.map fz))) fun v948 => O.bind (O.of (R.bind (R.bind (R.ok (.sh a3)) fun e960 => R.bind (R.bind (R.ok (.sh (fz v948))) fun e958 => R.bind (R.bind (R.ok (.sh a1)) fun e956 => R.bind (R.bind (R.bind (R.ok (.sh a2)) fun e951 => R.bind (R.ok none) fun i952 => R.bind (R.bind (R.ok (.sh (nd t478 0))) fun e949 => R.bind (iR e949) fun i950 => .ok (some i950)) fun i953 => ofOR (gSl e951 i952 i953)) fun e954 => R.bind (R.ok []) fun l955 => .ok (e954 :: l955)) fun l957 => .ok (e956 :: l957)) fun l959 => .ok (e958 :: l959)) fun l961 => .ok (e960 :: l961)) fun l962 => q_near_ships (l962.map fz))) fun v963 => O.bind (O.of (R.bind (R.ok []) fun l964 => szR l964.length (.lst l964))) fun v965 => O.bind (O.bind (O.of (R.bind (R.ok (.sh (fz s476))) itR)) fun z1404 => forO z1404 (fun x1117 s1116 => q_all_hidings_2 a2 t478 v948 v963 x1117 s1116) v965) fun s1405 => O.bind (O.of (R.ok s1405)) fun v1406 => .next v1406
theorem okq_all_hidings_3 (a1 : PyData) (a2 : PyData) (a3 : PyData) (t478 : List PyData) (x477 : PyData) (s476 : OV) : jS b_all_hidings_3 [.ex (.sh a1), .ex (.sh a2), .ex (.sh a3), .ex s476, .ex (.sh (nd t478 0)), .ex (.sh (nd t478 1)), .no, .no, .no, .no, .no, .no, .no] (q_all_hidings_3 a1 a2 a3 t478 x477 s476) (fun (s476 : OV) => [.ex (.sh a1), .ex (.sh a2), .ex (.sh a3), .ex s476, .no, .no, .no, .no, .no, .no, .no, .no, .no]) := by
  unfold q_all_hidings_3 b_all_hidings_3
  exact (js_seq (st1 := fun (v948 : OV) => [.ex (.sh a1), .ex (.sh a2), .ex (.sh a3), .ex s476, .ex (.sh (nd t478 0)), .ex (.sh (nd t478 1)), .ex v948, .no, .no, .no, .no, .no, .no]) (js_set (j_call okq_ships_of (j_lcons (j_v rfl) (j_lcons (j_v rfl) j_lnil)))) fun v948 => (js_seq (st1 := fun (v963 : OV) => [.ex (.sh a1), .ex (.sh a2), .ex (.sh a3), .ex s476, .ex (.sh (nd t478 0)), .ex (.sh (nd t478 1)), .ex (.sh (fz v948)), .ex v963, .no, .no, .no, .no, .no]) (js_set (j_call okq_near_ships (j_lcons (j_v rfl) (j_lcons (j_vx rfl) (j_lcons (j_v rfl) (j_lcons (j_sl (j_v rfl) j_ono (j_osome (j_v rfl))) j_lnil)))))) fun v963 => (js_seq (st1 := fun (v965 : OV) => [.ex (.sh a1), .ex (.sh a2), .ex (.sh a3), .ex s476, .ex (.sh (nd t478 0)), .ex (.sh (nd t478 1)), .ex (.sh (fz v948)), .ex v963, .ex v965, .no, .no, .no, .no]) (js_set (j_lst j_lnil)) fun v965 => (js_seq (st1 := fun (s1405 : OV) => [.ex (.sh a1), .ex (.sh a2), .ex (.sh a3), .no, .ex (.sh (nd t478 0)), .ex (.sh (nd t478 1)), .ex (.sh (fz v948)), .fr (fz v963), .ex s1405, .no, .no, .no, .no]) (js_forN (st := fun (s1116 : OV) => [.ex (.sh a1), .ex (.sh a2), .ex (.sh a3), .no, .ex (.sh (nd t478 0)), .ex (.sh (nd t478 1)), .ex (.sh (fz v948)), .fr (fz v963), .ex s1116, .no, .no, .no, .no]) (j_ival (j_vx rfl)) (by exact (.eq (.eq (.eq (.no (.eq (.eq (.eq (.fr (.eq (.eq (.eq (.eq (.eq .nil)))))))))))))) (fun x1117 s1116 => okq_all_hidings_2 a1 a2 a3 t478 v948 v963 x1117 s1116) (fun _ => rfl)) fun s1405 => (js_seq (st1 := fun (v1406 : OV) => [.ex (.sh a1), .ex (.sh a2), .ex (.sh a3), .ex v1406, .ex (.sh (nd t478 0)), .ex (.sh (nd t478 1)), .ex (.sh (fz v948)), .fr (fz v963), .un, .no, .no, .no, .no]) (js_set (j_m rfl)) fun v1406 => (js_nil (by exact (.eq (.eq (.eq (.eq (.no (.no (.no (.no (.no (.eq (.eq (.eq (.eq .nil))))))))))))))))))))
def q_all_hidings_0 (a1 : PyData) (a2 : PyData) (a3 : PyData) : O Unit :=
  O.bind (O.of (R.bind (R.bind (R.bind (R.ok []) fun l4 => szR l4.length (.sh (.tuple (l4.map fz)))) fun e5 => R.bind (R.ok []) fun l6 => .ok (e5 :: l6)) fun l7 => szR l7.length (.lst l7))) fun v8 => O.bind (O.bind (O.of (R.bind (R.ok (.sh a2)) enR)) fun z1407 => forO z1407 (fun x477 s476 => O.bind (O.of (unT 2 (fz (.sh x477)))) fun t478 => q_all_hidings_3 a1 a2 a3 t478 x477 s476) v8) fun s1408 => O.bind (O.of (R.ok s1408)) fun o1409 => .ret o1409
theorem okq_all_hidings_0 (a1 : PyData) (a2 : PyData) (a3 : PyData) : jS b_all_hidings [.ex (.sh a1), .ex (.sh a2), .ex (.sh a3), .un, .un, .un, .un, .un, .un, .un, .un, .un, .un] (q_all_hidings_0 a1 a2 a3) (fun _ : Unit => [.no, .no, .no, .no, .no, .no, .no, .no, .no, .no, .no, .no, .no]) := by
  unfold q_all_hidings_0 b_all_hidings
  exact (js_seq (st1 := fun (v8 : OV) => [.ex (.sh a1), .ex (.sh a2), .ex (.sh a3), .ex v8, .un, .un, .un, .un, .un, .un, .un, .un, .un]) (js_set (j_lst (j_lcons (j_tup j_lnil) j_lnil))) fun v8 => (js_seq (st1 := fun (s1408 : OV) => [.ex (.sh a1), .ex (.sh a2), .ex (.sh a3), .ex s1408, .no, .no, .no, .no, .no, .no, .no, .no, .no]) (js_for (st := fun (s476 : OV) => [.ex (.sh a1), .ex (.sh a2), .ex (.sh a3), .ex s476, .no, .no, .no, .no, .no, .no, .no, .no, .no]) (pt := fun x477 s476 t478 => [.ex (.sh a1), .ex (.sh a2), .ex (.sh a3), .ex s476, .ex (.sh (nd t478 0)), .ex (.sh (nd t478 1)), .no, .no, .no, .no, .no, .no, .no]) (j_ienum (j_v rfl)) .rf (fun x477 s476 => (jt_tup fun t478 => (jts_cons (by decide) (jts_cons (by decide) jts_nil)))) (fun x477 s476 t478 => okq_all_hidings_3 a1 a2 a3 t478 x477 s476) (fun _ => rfl)) fun s1408 => (js_retc (j_m rfl))))
def q_all_hidings : List PyData → R OV
  | [a1, a2, a3] => O.fin (q_all_hidings_0 a1 a2 a3)
  | _ => .stk
theorem okq_all_hidings : jP m_all_hidings q_all_hidings := fun ds => match ds with
  | [a1, a2, a3] => j_def (qq := q_all_hidings_0 a1 a2 a3) (okq_all_hidings_0 a1 a2 a3)
  | [] => trivial
  | [_] => trivial
  | [_, _] => trivial
  | _ :: _ :: _ :: _ :: _ => trivial
def b_bit_of : Rho → Out :=
  (sCons (sRet (eShl (cC (.int 1)) (eBin gAdd (eMul (cC (.int 8)) (eBin gSub (eV 0) (cC (.int 0)))) (eBin gSub (eV 0) (cC (.int 1))))))
    sNil)
def m_bit_of : List PyData → Rv := runP 1 b_bit_of
def q_bit_of_0 (a1 : PyData) : O Unit :=
  O.bind (O.of (R.bind (R.ok (.sh (.int 1))) fun e10 => R.bind (R.bind (R.bind (R.ok (.sh (.int 8))) fun e4 => R.bind (R.bind (R.ok (.sh a1)) fun e2 => R.bind (R.ok (.sh (.int 0))) fun e3 => ofOR (gSub e2 e3)) fun e5 => ofOR (gMulI e4 e5)) fun e8 => R.bind (R.bind (R.ok (.sh a1)) fun e6 => R.bind (R.ok (.sh (.int 1))) fun e7 => ofOR (gSub e6 e7)) fun e9 => ofOR (gAdd e8 e9)) fun e11 => ofOR (gShlI e10 e11))) fun o12 => .ret o12
theorem okq_bit_of_0 (a1 : PyData) : jS b_bit_of [.ex (.sh a1)] (q_bit_of_0 a1) (fun _ : Unit => [.no]) := by
  unfold q_bit_of_0 b_bit_of
  exact (js_retc (j_bin j_c (j_bin (j_bin j_c (j_bin (j_v rfl) j_c)) (j_bin (j_v rfl) j_c))))
def q_bit_of : List PyData → R OV
  | [a1] => O.fin (q_bit_of_0 a1)
  | _ => .stk
theorem okq_bit_of : jP m_bit_of q_bit_of := fun ds => match ds with
  | [a1] => j_def (qq := q_bit_of_0 a1) (okq_bit_of_0 a1)
  | [] => trivial
  | _ :: _ :: _ => trivial
def b_bits_of : Rho → Out :=
  (sCons (sRet (eFn (g1 dSum) (lCons (eLc [1] (iVal (eCall m_cells_of (lCons (eV 0) lNil))) (hName 1) tYesR (eCall m_bit_of (lCons (eV 1) lNil))) lNil)))
    sNil)
def m_bits_of : List PyData → Rv := runP 2 b_bits_of
def q_bits_of_0 (a1 : PyData) : O Unit :=
  O.bind (O.of (R.bind (R.bind (R.bind (R.bind (R.bind (R.bind (R.ok (.sh a1)) fun e2 => R.bind (R.ok []) fun l3 => .ok (e2 :: l3)) fun l4 => q_cells_of (l4.map fz)) itR) fun z10 => R.bind (lcR (fun x5 => R.bind (R.bind (R.bind (R.ok (.sh x5)) fun e6 => R.bind (R.ok []) fun l7 => .ok (e6 :: l7)) fun l8 => q_bit_of (l8.map fz)) fun o9 => .ok (some o9)) z10) fun l11 => szR l11.length (.lst l11)) fun e12 => R.bind (R.ok []) fun l13 => .ok (e12 :: l13)) fun l14 => ofOR ((g1 dSum) l14))) fun o15 => .ret o15
theorem okq_bits_of_0 (a1 : PyData) : jS b_bits_of [.ex (.sh a1), .un] (q_bits_of_0 a1) (fun _ : Unit => [.no, .no]) := by
  unfold q_bits_of_0 b_bits_of
  exact (js_retc (j_fn (j_lcons (j_lc (pc := [.ex (.sh a1), .no]) (j_ival (j_call okq_cells_of (j_lcons (j_v rfl) j_lnil))) .rf fun x5 => (j_turn1N (j_call okq_bit_of (j_lcons (j_v rfl) j_lnil)) .rf)) j_lnil)))
def q_bits_of : List PyData → R OV
  | [a1] => O.fin (q_bits_of_0 a1)
  | _ => .stk
theorem okq_bits_of : jP m_bits_of q_bits_of := fun ds => match ds with
  | [a1] => j_def (qq := q_bits_of_0 a1) (okq_bits_of_0 a1)
  | [] => trivial
  | _ :: _ :: _ => trivial
def b_answer_of_1 : Rho → Out :=
  (sCons (sIf (eTest (eBin (gEq true) (eBand (eV 4) (eV 3)) (cC (.int 0)))) (sCons (sRet (eIf (eTest (eBin (gEq false) (eBand (eV 4) (eUn (gI fun i => .int (Builtin.bitNot i)) (eBor (eV 1) (eV 3)))) (cC (.int 0)))) (cC (.str "sunk")) (cC (.str "hit"))))
    sNil) sNil)
    sNil)
def b_answer_of : Rho → Out :=
  (sCons (sSet 3 (eCall m_bit_of (lCons (eV 2) lNil)))
    (sCons (sFor [4] (iVal (eV 0)) (hName 4) b_answer_of_1)
    (sCons (sRet (cC (.str "water")))
    sNil)))
def m_answer_of : List PyData → Rv := runP 5 b_answer_of
def q_answer_of_1 (a2 : PyData) (v7 : OV) (x35 : PyData) (s34 : Unit) : O (Unit) :=
  O.bind (O.bind (O.of (R.bind (R.bind (R.bind (R.ok (.sh x35)) fun e60 => R.bind (R.ok (.sh (fz v7))) fun e61 => ofOR (gAndI e60 e61)) fun e62 => R.bind (R.ok (.sh (.int 0))) fun e63 => ofOR (gEq true e62 e63)) toBR)) fun b83 => if b83 = true then O.bind (O.of (R.bind (R.bind (R.bind (R.bind (R.ok (.sh x35)) fun e77 => R.bind (R.bind (R.bind (R.ok (.sh a2)) fun e74 => R.bind (R.ok (.sh (fz v7))) fun e75 => ofOR (gOrI e74 e75)) fun e76 => ofOR ((gI fun i => .int (Builtin.bitNot i)) e76)) fun e78 => ofOR (gAndI e77 e78)) fun e79 => R.bind (R.ok (.sh (.int 0))) fun e80 => ofOR (gEq false e79 e80)) toBR) fun b81 => if b81 = true then (R.ok (.sh (.str "sunk"))) else (R.ok (.sh (.str "hit"))))) fun o82 => .ret o82 else .next ()) fun s73 => .next ()
theorem okq_answer_of_1 (a2 : PyData) (v7 : OV) (x35 : PyData) (s34 : Unit) : jS b_answer_of_1 [.no, .ex (.sh a2), .no, .fr (fz v7), .ex (.sh x35)] (q_answer_of_1 a2 v7 x35 s34) (fun (s34 : Unit) => [.no, .ex (.sh a2), .no, .fr (fz v7), .no]) := by
  unfold q_answer_of_1 b_answer_of_1
  exact (js_seq (st1 := fun (s73 : Unit) => [.no, .ex (.sh a2), .no, .fr (fz v7), .no]) (js_if (j_test (j_bin (j_bin (j_v rfl) (j_vf rfl)) j_c)) (js_retc (j_ife (j_test (j_bin (j_bin (j_v rfl) (j_un (j_bin (j_v rfl) (j_vf rfl)))) j_c)) j_c j_c)) (js_nil (by exact (.eq (.eq (.eq (.eq (.no .nil)))))))) fun s73 => (js_nil .rf))
def q_answer_of_0 (a1 : PyData) (a2 : PyData) (a3 : PyData) : O Unit :=
  O.bind (O.of (R.bind (R.bind (R.ok (.sh a3)) fun e4 => R.bind (R.ok []) fun l5 => .ok (e4 :: l5)) fun l6 => q_bit_of (l6.map fz))) fun v7 => O.bind (O.bind (O.of (R.bind (R.ok (.sh a1)) itR)) fun z84 => forO z84 (fun x35 s34 => q_answer_of_1 a2 v7 x35 s34) ()) fun s85 => O.bind (O.of (R.ok (.sh (.str "water")))) fun o86 => .ret o86
theorem okq_answer_of_0 (a1 : PyData) (a2 : PyData) (a3 : PyData) : jS b_answer_of [.ex (.sh a1), .ex (.sh a2), .ex (.sh a3), .un, .un] (q_answer_of_0 a1 a2 a3) (fun _ : Unit => [.no, .no, .no, .no, .no]) := by
  unfold q_answer_of_0 b_answer_of
  exact (js_seq (st1 := fun (v7 : OV) => [.ex (.sh a1), .ex (.sh a2), .ex (.sh a3), .ex v7, .un]) (js_set (j_call okq_bit_of (j_lcons (j_v rfl) j_lnil))) fun v7 => (js_seq (st1 := fun (s85 : Unit) => [.no, .ex (.sh a2), .no, .fr (fz v7), .no]) (js_forN (st := fun (s34 : Unit) => [.no, .ex (.sh a2), .no, .fr (fz v7), .no]) (j_ival (j_v rfl)) (by exact (.no (.eq (.no (.fr (.eq .nil)))))) (fun x35 s34 => okq_answer_of_1 a2 v7 x35 s34) (fun _ => rfl)) fun s85 => (js_retc j_c)))
def q_answer_of : List PyData → R OV
  | [a1, a2, a3] => O.fin (q_answer_of_0 a1 a2 a3)
  | _ => .stk
theorem okq_answer_of : jP m_answer_of q_answer_of := fun ds => match ds with
  | [a1, a2, a3] => j_def (qq := q_answer_of_0 a1 a2 a3) (okq_answer_of_0 a1 a2 a3)
  | [] => trivial
  | [_] => trivial
  | [_, _] => trivial
  | _ :: _ :: _ :: _ :: _ => trivial
def b_answers_of_1 : Rho → Out :=
  (sCons (sExpr (eMut 4 "list" mApp (lCons (eCall m_answer_of (lCons (eV 2) (lCons (eV 3) (lCons (eV 5) lNil)))) lNil)))
    (sCons (sSet 3 (eBor (eV 3) (eCall m_bit_of (lCons (eV 5) lNil))))
    sNil))
def b_answers_of : Rho → Out :=
  (sCons (sSet 2 (eLc [6] (iVal (eV 0)) (hName 6) tYesR (eCall m_bits_of (lCons (eV 6) lNil))))
    (sCons (sSet 3 (cC (.int 0)))
    (sCons (sSet 4 (eLst lNil))
    (sCons (sFor [5] (iVal (eV 1)) (hName 5) b_answers_of_1)
    (sCons (sRet (eM 4))
    sNil)))))
def m_answers_of : List PyData → Rv := runP 7 b_answers_of
def q_answers_of_1 (v10 : OV) (x35 : PyData) (s34 : OV × OV) : O (OV × OV) :=
  O.bind (O.of (R.bind (ownR "list" s34.2) fun _ => R.bind (R.bind (R.bind (R.bind (R.ok (.sh (fz v10))) fun e58 => R.bind (R.bind (R.ok (.sh (fz s34.1))) fun e56 => R.bind (R.bind (R.ok (.sh x35)) fun e54 => R.bind (R.ok []) fun l55 => .ok (e54 :: l55)) fun l57 => .ok (e56 :: l57)) fun l59 => .ok (e58 :: l59)) fun l60 => q_answer_of (l60.map fz)) fun e61 => R.bind (R.ok []) fun l62 => .ok (e61 :: l62)) fun l64 => R.bind (mutR mApp s34.2 l64) fun r65 => .ok r65.1)) fun v63 => O.bind (O.of (R.bind (R.ok (.sh (fz s34.1))) fun e69 => R.bind (R.bind (R.bind (R.ok (.sh x35)) fun e66 => R.bind (R.ok []) fun l67 => .ok (e66 :: l67)) fun l68 => q_bit_of (l68.map fz)) fun e70 => ofOR (gOrI e69 e70))) fun v71 => .next (v71, v63)
theorem okq_answers_of_1 (v10 : OV) (x35 : PyData) (s34 : OV × OV) : jS b_answers_of_1 [.no, .no, .fr (fz v10), .ex s34.1, .ex s34.2, .ex (.sh x35), .no] (q_answers_of_1 v10 x35 s34) (fun (s34 : OV × OV) => [.no, .no, .fr (fz v10), .ex s34.1, .ex s34.2, .no, .no]) := by
  unfold q_answers_of_1 b_answers_of_1
  exact (js_seq (st1 := fun (v63 : OV) => [.no, .no, .fr (fz v10), .ex (.sh (fz s34.1)), .ex v63, .ex (.sh x35), .no]) (js_mut rfl (j_lcons (j_call okq_answer_of (j_lcons (j_vf rfl) (j_lcons (j_vx rfl) (j_lcons (j_v rfl) j_lnil)))) j_lnil) rfl) fun v63 => (js_seq (st1 := fun (v71 : OV) => [.no, .no, .fr (fz v10), .ex v71, .ex v63, .ex (.sh x35), .no]) (js_set (j_bin (j_v rfl) (j_call okq_bit_of (j_lcons (j_v rfl) j_lnil)))) fun v71 => (js_nil (by exact (.eq (.eq (.eq (.eq (.eq (.no (.eq .nil)))))))))))
def q_answers_of_0 (a1 : PyData) (a2 : PyData) : O Unit :=
  O.bind (O.of (R.bind (R.bind (R.ok (.sh a1)) itR) fun z8 => R.bind (lcR (fun x3 => R.bind (R.bind (R.bind (R.ok (.sh x3)) fun e4 => R.bind (R.ok []) fun l5 => .ok (e4 :: l5)) fun l6 => q_bits_of (l6.map fz)) fun o7 => .ok (some o7)) z8) fun l9 => szR l9.length (.lst l9))) fun v10 => O.bind (O.of (R.ok (.sh (.int 0)))) fun v11 => O.bind (O.of (R.bind (R.ok []) fun l12 => szR l12.length (.lst l12))) fun v13 => O.bind (O.bind (O.of (R.bind (R.ok (.sh a2)) itR)) fun z72 => forO z72 (fun x35 s34 => q_answers_of_1 v10 x35 s34) (v11, v13)) fun s73 => O.bind (O.of (R.ok s73.2)) fun o74 => .ret o74
theorem okq_answers_of_0 (a1 : PyData) (a2 : PyData) : jS b_answers_of [.ex (.sh a1), .ex (.sh a2), .un, .un, .un, .un, .un] (q_answers_of_0 a1 a2) (fun _ : Unit => [.no, .no, .no, .no, .no, .no, .no]) := by
  unfold q_answers_of_0 b_answers_of
  exact (js_seq (st1 := fun (v10 : OV) => [.ex (.sh a1), .ex (.sh a2), .ex v10, .un, .un, .un, .no]) (js_set (j_lc (pc := [.ex (.sh a1), .ex (.sh a2), .un, .un, .un, .un, .no]) (j_ival (j_v rfl)) .rf fun x3 => (j_turn1N (j_call okq_bits_of (j_lcons (j_v rfl) j_lnil)) .rf))) fun v10 => (js_seq (st1 := fun (v11 : OV) => [.ex (.sh a1), .ex (.sh a2), .ex v10, .ex v11, .un, .un, .no]) (js_set j_c) fun v11 => (js_seq (st1 := fun (v13 : OV) => [.ex (.sh a1), .ex (.sh a2), .ex v10, .ex v11, .ex v13, .un, .no]) (js_set (j_lst j_lnil)) fun v13 => (js_seq (st1 := fun (s73 : OV × OV) => [.no, .no, .fr (fz v10), .ex s73.1, .ex s73.2, .no, .no]) (js_forN (st := fun (s34 : OV × OV) => [.no, .no, .fr (fz v10), .ex s34.1, .ex s34.2, .no, .no]) (j_ival (j_v rfl)) (by exact (.no (.no (.fr (.eq (.eq (.eq (.eq .nil)))))))) (fun x35 s34 => okq_answers_of_1 v10 x35 s34) (fun _ => rfl)) fun s73 => (js_retc (j_m rfl))))))
def q_answers_of : List PyData → R OV
  | [a1, a2] => O.fin (q_answers_of_0 a1 a2)
  | _ => .stk
theorem okq_answers_of : jP m_answers_of q_answers_of := fun ds => match ds with
  | [a1, a2] => j_def (qq := q_answers_of_0 a1 a2) (okq_answers_of_0 a1 a2)
  | [] => trivial
  | [_] => trivial
  | _ :: _ :: _ :: _ => trivial
def b_fits : Rho → Out :=
  (sCons (sRet (eBin (gEq false) (eCall m_answers_of (lCons (eV 0) (lCons (eLc [2] (iVal (eV 1)) (hName 2) tYesR (eBin gSub (eV 2) (cC (.int 0)))) lNil))) (eLc [2] (iVal (eV 1)) (hName 2) tYesR (eBin gSub (eV 2) (cC (.int 1))))))
    sNil)
def m_fits : List PyData → Rv := runP 3 b_fits
def q_fits_0 (a1 : PyData) (a2 : PyData) : O Unit :=
  O.bind (O.of (R.bind (R.bind (R.bind (R.ok (.sh a1)) fun e11 => R.bind (R.bind (R.bind (R.bind (R.ok (.sh a2)) itR) fun z7 => R.bind (lcR (fun x3 => R.bind (R.bind (R.ok (.sh x3)) fun e4 => R.bind (R.ok (.sh (.int 0))) fun e5 => ofOR (gSub e4 e5)) fun o6 => .ok (some o6)) z7) fun l8 => szR l8.length (.lst l8)) fun e9 => R.bind (R.ok []) fun l10 => .ok (e9 :: l10)) fun l12 => .ok (e11 :: l12)) fun l13 => q_answers_of (l13.map fz)) fun e20 => R.bind (R.bind (R.bind (R.ok (.sh a2)) itR) fun z18 => R.bind (lcR (fun x14 => R.bind (R.bind (R.ok (.sh x14)) fun e15 => R.bind (R.ok (.sh (.int 1))) fun e16 => ofOR (gSub e15 e16)) fun o17 => .ok (some o17)) z18) fun l19 => szR l19.length (.lst l19)) fun e21 => ofOR (gEq false e20 e21))) fun o22 => .ret o22
theorem okq_fits_0 (a1 : PyData) (a2 : PyData) : jS b_fits [.ex (.sh a1), .ex (.sh a2), .un] (q_fits_0 a1 a2) (fun _ : Unit => [.no, .no, .no]) := by
  unfold q_fits_0 b_fits
  exact (js_retc (j_bin (j_call okq_answers_of (j_lcons (j_v rfl) (j_lcons (j_lc (pc := [.ex (.sh a1), .ex (.sh a2), .no]) (j_ival (j_v rfl)) .rf fun x3 => (j_turn1N (j_bin (j_v rfl) j_c) .rf)) j_lnil))) (j_lc (pc := [.ex (.sh a1), .ex (.sh a2), .no]) (j_ival (j_v rfl)) .rf fun x14 => (j_turn1N (j_bin (j_v rfl) j_c) .rf))))
def q_fits : List PyData → R OV
  | [a1, a2] => O.fin (q_fits_0 a1 a2)
  | _ => .stk
theorem okq_fits : jP m_fits q_fits := fun ds => match ds with
  | [a1, a2] => j_def (qq := q_fits_0 a1 a2) (okq_fits_0 a1 a2)
  | [] => trivial
  | [_] => trivial
  | _ :: _ :: _ :: _ => trivial
def b__law_answers_1 : Rho → Out :=
  (sCons (sIf (eTest (eBin (gIn false) (eV 5) (eBin gSub (eV 3) (eV 7)))) (sCons (sSetIx 2 (eSub (eBL gSubP 2 (eV 7)) (cC (.int 1))) (eV 7))
    (sCons (sSet 6 (eBin gSub (eLst (lCons (cC (.str "hit")) (lCons (cC (.str "sunk")) lNil))) (eFn (g1 dInt) (lCons (eBin (gEq false) (eBL gSubP 2 (eV 7)) (cC (.int 0))) lNil))))
    sNil)) sNil)
    sNil)
def b__law_answers_2 : Rho → Out :=
  (sCons (sSet 6 (cC (.str "water")))
    (sCons (sFor [7] (iRange1 (eFn (g1 dLen) (lCons (eV 0) lNil))) (hName 7) b__law_answers_1)
    (sCons (sExpr (eMut 4 "list" mApp (lCons (eV 6) lNil)))
    sNil)))
def b__law_answers : Rho → Out :=
  (sCons (sSet 2 (eLc [8] (iVal (eV 0)) (hName 8) tYesR (eFn (g1 dLen) (lCons (eCall m__law_cells (lCons (eV 8) lNil)) lNil))))
    (sCons (sSet 3 (eLc [8] (iVal (eV 0)) (hName 8) tYesR (eCall m__law_cells (lCons (eV 8) lNil))))
    (sCons (sSet 4 (eLst lNil))
    (sCons (sFor [5, 6, 7] (iVal (eV 1)) (hName 5) b__law_answers_2)
    (sCons (sRet (eM 4))
    sNil)))))
def m__law_answers : List PyData → Rv := runP 9 b__law_answers
def q__law_answers_1 (v21 : OV) (x180 : PyData) (x387 : PyData) (s386 : OV × OV) : O (OV × OV) :=
  O.bind (O.bind (O.of (R.bind (R.bind (R.ok (.sh x180)) fun e436 => R.bind (R.bind (R.ok (.sh (fz v21))) fun e434 => R.bind (R.ok (.sh x387)) fun e435 => ofOR (gSub e434 e435)) fun e437 => ofOR (gIn false e436 e437)) toBR)) fun b479 => if b479 = true then O.bind (O.of (R.bind (R.bind (R.bind (R.ok (.sh x387)) fun e459 => ofPR (gSubP (fz s386.1) (fz e459))) fun e460 => R.bind (R.ok (.sh (.int 1))) fun e461 => ofOR (gSubI e460 e461)) fun o463 => R.bind (R.ok (.sh x387)) fun k464 => setR s386.1 k464 o463)) fun v462 => O.bind (O.of (R.bind (R.bind (R.bind (R.ok (.sh (.str "hit"))) fun e467 => R.bind (R.bind (R.ok (.sh (.str "sunk"))) fun e465 => R.bind (R.ok []) fun l466 => .ok (e465 :: l466)) fun l468 => .ok (e467 :: l468)) fun l469 => szR l469.length (.lst l469)) fun e476 => R.bind (R.bind (R.bind (R.bind (R.bind (R.ok (.sh x387)) fun e470 => ofPR (gSubP (fz v462) (fz e470))) fun e471 => R.bind (R.ok (.sh (.int 0))) fun e472 => ofOR (gEq false e471 e472)) fun e473 => R.bind (R.ok []) fun l474 => .ok (e473 :: l474)) fun l475 => ofOR ((g1 dInt) l475)) fun e477 => ofOR (gSub e476 e477))) fun v478 => .next (v462, v478) else .next (s386.1, s386.2)) fun s458 => .next (s458.1, s458.2)
theorem okq__law_answers_1 (a1 : PyData) (v21 : OV) (s179 : OV × OV) (x180 : PyData) (x387 : PyData) (s386 : OV × OV) : jS b__law_answers_1 [.ex (.sh a1), .no, .ex s386.1, .fr (fz v21), .ex s179.2, .ex (.sh x180), .ex s386.2, .ex (.sh x387), .no] (q__law_answers_1 v21 x180 x387 s386) (fun (s386 : OV × OV) => [.ex (.sh a1), .no, .ex s386.1, .fr (fz v21), .ex s179.2, .ex (.sh x180), .ex s386.2, .no, .no]) := by
  unfold q__law_answers_1 b__law_answers_1
  exact (js_seq (st1 := fun (s458 : OV × OV) => [.ex (.sh a1), .no, .ex s458.1, .fr (fz v21), .ex s179.2, .ex (.sh x180), .ex s458.2, .no, .no]) (js_if (j_test (j_bin (j_v rfl) (j_bin (j_vf rfl) (j_v rfl)))) (js_seq (st1 := fun (v462 : OV) => [.ex (.sh a1), .no, .ex v462, .fr (fz v21), .ex s179.2, .ex (.sh x180), .ex s386.2, .ex (.sh x387), .no]) (js_setIx (j_bin (j_bL rfl rfl (j_v rfl) rfl rfl) j_c) rfl rfl (j_v rfl) rfl) fun v462 => (js_seq (st1 := fun (v478 : OV) => [.ex (.sh a1), .no, .ex v462, .fr (fz v21), .ex s179.2, .ex (.sh x180), .ex v478, .ex (.sh x387), .no]) (js_set (j_bin (j_lst (j_lcons j_c (j_lcons j_c j_lnil))) (j_fn (j_lcons (j_bin (j_bL rfl rfl (j_v rfl) rfl rfl) j_c) j_lnil)))) fun v478 => (js_nil (by exact (.eq (.eq (.eq (.eq (.eq (.eq (.eq (.no (.eq .nil))))))))))))) (js_nil (by exact (.eq (.eq (.eq (.eq (.eq (.eq (.eq (.no (.eq .nil)))))))))))) fun s458 => (js_nil .rf))
def q__law_answers_2 (a1 : PyData) (v21 : OV) (x180 : PyData) (s179 : OV × OV) : O (OV × OV) :=
  O.bind (O.of (R.ok (.sh (.str "water")))) fun v334 => O.bind (O.bind (O.of (R.bind (R.bind (R.bind (R.ok (.sh a1)) fun e335 => R.bind (R.ok []) fun l336 => .ok (e335 :: l336)) fun l337 => ofOR ((g1 dLen) l337)) rng1R)) fun z480 => forO z480 (fun x387 s386 => q__law_answers_1 v21 x180 x387 s386) (s179.1, v334)) fun s481 => O.bind (O.of (R.bind (ownR "list" s179.2) fun _ => R.bind (R.bind (R.ok (.sh (fz s481.2))) fun e482 => R.bind (R.ok []) fun l483 => .ok (e482 :: l483)) fun l485 => R.bind (mutR mApp s179.2 l485) fun r486 => .ok r486.1)) fun v484 => .next (s481.1, v484)
theorem okq__law_answers_2 (a1 : PyData) (v21 : OV) (x180 : PyData) (s179 : OV × OV) : jS b__law_answers_2 [.ex (.sh a1), .no, .ex s179.1, .fr (fz v21), .ex s179.2, .ex (.sh x180), .no, .no, .no] (q__law_answers_2 a1 v21 x180 s179) (fun (s179 : OV × OV) => [.ex (.sh a1), .no, .ex s179.1, .fr (fz v21), .ex s179.2, .no, .no, .no, .no]) := by
  unfold q__law_answers_2 b__law_answers_2
  exact (js_seq (st1 := fun (v334 : OV) => [.ex (.sh a1), .no, .ex s179.1, .fr (fz v21), .ex s179.2, .ex (.sh x180), .ex v334, .no, .no]) (js_set j_c) fun v334 => (js_seq (st1 := fun (s481 : OV × OV) => [.ex (.sh a1), .no, .ex s481.1, .fr (fz v21), .ex s179.2, .ex (.sh x180), .ex s481.2, .no, .no]) (js_forN (st := fun (s386 : OV × OV) => [.ex (.sh a1), .no, .ex s386.1, .fr (fz v21), .ex s179.2, .ex (.sh x180), .ex s386.2, .no, .no]) (j_irange1 (j_fn (j_lcons (j_v rfl) j_lnil))) .rf (fun x387 s386 => okq__law_answers_1 a1 v21 s179 x180 x387 s386) (fun _ => rfl)) fun s481 => (js_seq (st1 := fun (v484 : OV) => [.ex (.sh a1), .no, .ex s481.1, .fr (fz v21), .ex v484, .ex (.sh x180), .ex (.sh (fz s481.2)), .no, .no]) (js_mut rfl (j_lcons (j_vx rfl) j_lnil) rfl) fun v484 => (js_nil (by exact (.eq (.eq (.eq (.eq (.eq (.no (.no (.eq (.eq .nil))))))))))))))
def q__law_answers_0 (a1 : PyData) (a2 : PyData) : O Unit :=
  O.bind (O.of (R.bind (R.bind (R.ok (.sh a1)) itR) fun z11 => R.bind (lcR (fun x3 => R.bind (R.bind (R.bind (R.bind (R.bind (R.ok (.sh x3)) fun e4 => R.bind (R.ok []) fun l5 => .ok (e4 :: l5)) fun l6 => q__law_cells (l6.map fz)) fun e7 => R.bind (R.ok []) fun l8 => .ok (e7 :: l8)) fun l9 => ofOR ((g1 dLen) l9)) fun o10 => .ok (some o10)) z11) fun l12 => szR l12.length (.lst l12))) fun v13 => O.bind (O.of (R.bind (R.bind (R.ok (.sh a1)) itR) fun z19 => R.bind (lcR (fun x14 => R.bind (R.bind (R.bind (R.ok (.sh x14)) fun e15 => R.bind (R.ok []) fun l16 => .ok (e15 :: l16)) fun l17 => q__law_cells (l17.map fz)) fun o18 => .ok (some o18)) z19) fun l20 => szR l20.length (.lst l20))) fun v21 => O.bind (O.of (R.bind (R.ok []) fun l22 => szR l22.length (.lst l22))) fun v23 => O.bind (O.bind (O.of (R.bind (R.ok (.sh a2)) itR)) fun z487 => forO z487 (fun x180 s179 => q__law_answers_2 a1 v21 x180 s179) (v13, v23)) fun s488 => O.bind (O.of (R.ok s488.2)) fun o489 => .ret o489
theorem okq__law_answers_0 (a1 : PyData) (a2 : PyData) : jS b__law_answers [.ex (.sh a1), .ex (.sh a2), .un, .un, .un, .un, .un, .un, .un] (q__law_answers_0 a1 a2) (fun _ : Unit => [.no, .no, .no, .no, .no, .no, .no, .no, .no]) := by
  unfold q__law_answers_0 b__law_answers
  exact (js_seq (st1 := fun (v13 : OV) => [.ex (.sh a1), .ex (.sh a2), .ex v13, .un, .un, .un, .un, .un, .no]) (js_set (j_lc (pc := [.ex (.sh a1), .ex (.sh a2), .un, .un, .un, .un, .un, .un, .no]) (j_ival (j_v rfl)) .rf fun x3 => (j_turn1N (j_fn (j_lcons (j_call okq__law_cells (j_lcons (j_v rfl) j_lnil)) j_lnil)) .rf))) fun v13 => (js_seq (st1 := fun (v21 : OV) => [.ex (.sh a1), .ex (.sh a2), .ex v13, .ex v21, .un, .un, .un, .un, .no]) (js_set (j_lc (pc := [.ex (.sh a1), .ex (.sh a2), .ex v13, .un, .un, .un, .un, .un, .no]) (j_ival (j_v rfl)) .rf fun x14 => (j_turn1N (j_call okq__law_cells (j_lcons (j_v rfl) j_lnil)) .rf))) fun v21 => (js_seq (st1 := fun (v23 : OV) => [.ex (.sh a1), .ex (.sh a2), .ex v13, .ex v21, .ex v23, .un, .un, .un, .no]) (js_set (j_lst j_lnil)) fun v23 => (js_seq (st1 := fun (s488 : OV × OV) => [.ex (.sh a1), .no, .ex s488.1, .fr (fz v21), .ex s488.2, .no, .no, .no, .no]) (js_forN (st := fun (s179 : OV × OV) => [.ex (.sh a1), .no, .ex s179.1, .fr (fz v21), .ex s179.2, .no, .no, .no, .no]) (j_ival (j_v rfl)) (by exact (.eq (.no (.eq (.fr (.eq (.eq (.eq (.eq (.eq .nil)))))))))) (fun x180 s179 => okq__law_answers_2 a1 v21 x180 s179) (fun _ => rfl)) fun s488 => (js_retc (j_m rfl))))))
def q__law_answers : List PyData → R OV
  | [a1, a2] => O.fin (q__law_answers_0 a1 a2)
  | _ => .stk
theorem okq__law_answers : jP m__law_answers q__law_answers := fun ds => match ds with
  | [a1, a2] => j_def (qq := q__law_answers_0 a1 a2) (okq__law_answers_0 a1 a2)
  | [] => trivial
  | [_] => trivial
  | _ :: _ :: _ :: _ => trivial
def b__law_sheet_cells_1 : Rho → Out :=
  (sCons (sExpr (eMut 1 "list" mExt (lCons (eLc [3] (iRange1 (eBin gSub (eV 0) (cC (.int 1)))) (hName 3) tYesR (eTup (lCons (eV 2) (lCons (eV 3) lNil)))) lNil)))
    sNil)
def b__law_sheet_cells : Rho → Out :=
  (sCons (sSet 1 (eLst lNil))
    (sCons (sFor [2, 3] (iRange1 (eBin gSub (eV 0) (cC (.int 0)))) (hName 2) b__law_sheet_cells_1)
    (sCons (sRet (eM 1))
    sNil)))
def m__law_sheet_cells : List PyData → Rv := runP 4 b__law_sheet_cells
def q__law_sheet_cells_1 (a1 : PyData) (x25 : PyData) (s24 : OV) : O (OV) :=
  O.bind (O.of (R.bind (ownR "list" s24) fun _ => R.bind (R.bind (R.bind (R.bind (R.bind (R.ok (.sh a1)) fun e42 => R.bind (R.ok (.sh (.int 1))) fun e43 => ofOR (gSub e42 e43)) rng1R) fun z51 => R.bind (lcR (fun x44 => R.bind (R.bind (R.bind (R.ok (.sh x25)) fun e47 => R.bind (R.bind (R.ok (.sh x44)) fun e45 => R.bind (R.ok []) fun l46 => .ok (e45 :: l46)) fun l48 => .ok (e47 :: l48)) fun l49 => szR l49.length (.sh (.tuple (l49.map fz)))) fun o50 => .ok (some o50)) z51) fun l52 => szR l52.length (.lst l52)) fun e53 => R.bind (R.ok []) fun l54 => .ok (e53 :: l54)) fun l56 => R.bind (mutR mExt s24 l56) fun r57 => .ok r57.1)) fun v55 => .next v55
theorem okq__law_sheet_cells_1 (a1 : PyData) (x25 : PyData) (s24 : OV) : jS b__law_sheet_cells_1 [.ex (.sh a1), .ex s24, .ex (.sh x25), .no] (q__law_sheet_cells_1 a1 x25 s24) (fun (s24 : OV) => [.ex (.sh a1), .ex s24, .no, .no]) := by
  unfold q__law_sheet_cells_1 b__law_sheet_cells_1
  exact (js_seq (st1 := fun (v55 : OV) => [.ex (.sh a1), .ex v55, .ex (.sh x25), .no]) (js_mut rfl (j_lcons (j_lc (pc := [.ex (.sh a1), .ex s24, .ex (.sh x25), .no]) (j_irange1 (j_bin (j_v rfl) j_c)) .rf fun x44 => (j_turn1N (j_tup (j_lcons (j_v rfl) (j_lcons (j_v rfl) j_lnil))) .rf)) j_lnil) rfl) fun v55 => (js_nil (by exact (.eq (.eq (.no (.eq .nil)))))))
def q__law_sheet_cells_0 (a1 : PyData) : O Unit :=
  O.bind (O.of (R.bind (R.ok []) fun l2 => szR l2.length (.lst l2))) fun v3 => O.bind (O.bind (O.of (R.bind (R.bind (R.ok (.sh a1)) fun e4 => R.bind (R.ok (.sh (.int 0))) fun e5 => ofOR (gSub e4 e5)) rng1R)) fun z58 => forO z58 (fun x25 s24 => q__law_sheet_cells_1 a1 x25 s24) v3) fun s59 => O.bind (O.of (R.ok s59)) fun o60 => .ret o60
theorem okq__law_sheet_cells_0 (a1 : PyData) : jS b__law_sheet_cells [.ex (.sh a1), .un, .un, .un] (q__law_sheet_cells_0 a1) (fun _ : Unit => [.no, .no, .no, .no]) := by
  unfold q__law_sheet_cells_0 b__law_sheet_cells
  exact (js_seq (st1 := fun (v3 : OV) => [.ex (.sh a1), .ex v3, .un, .un]) (js_set (j_lst j_lnil)) fun v3 => (js_seq (st1 := fun (s59 : OV) => [.ex (.sh a1), .ex s59, .no, .no]) (js_forN (st := fun (s24 : OV) => [.ex (.sh a1), .ex s24, .no, .no]) (j_irange1 (j_bin (j_v rfl) j_c)) .rf (fun x25 s24 => okq__law_sheet_cells_1 a1 x25 s24) (fun _ => rfl)) fun s59 => (js_retc (j_m rfl))))
def q__law_sheet_cells : List PyData → R OV
  | [a1] => O.fin (q__law_sheet_cells_0 a1)
  | _ => .stk
theorem okq__law_sheet_cells : jP m__law_sheet_cells q__law_sheet_cells := fun ds => match ds with
  | [a1] => j_def (qq := q__law_sheet_cells_0 a1) (okq__law_sheet_cells_0 a1)
  | [] => trivial
  | _ :: _ :: _ => trivial
def b__law_order_1 : Rho → Out :=
  (sCons (sExpr (eMut 2 "list" mIns (lCons (eMod (eCall m__law_stir (lCons (eV 0) (lCons (eBin gAdd (eMul (cC (.int 3)) (eV 3)) (cC (.int 1))) lNil))) (eBin gAdd (eV 3) (cC (.int 1)))) (lCons (eV 4) lNil))))
    sNil)
def b__law_order : Rho → Out :=
  (sCons (sSet 2 (eLst lNil))
    (sCons (sFor [3, 4] (iEnumA (eV 1)) (hTup 2 (hCons (hName 3) (hCons (hName 4) hNil))) b__law_order_1)
    (sCons (sRet (eM 2))
    sNil)))
def m__law_order : List PyData → Rv := runP 5 b__law_order
def q__law_order_1 (a1 : PyData) (t30 : List PyData) (x29 : PyData) (s28 : OV) : O (OV) :=
  O.bind (O.of (R.bind (ownR "list" s28) fun _ => R.bind (R.bind (R.bind (R.bind (R.bind (R.ok (.sh a1)) fun e57 => R.bind (R.bind (R.bind (R.bind (R.ok (.sh (.int 3))) fun e51 => R.bind (R.ok (.sh (nd t30 0))) fun e52 => ofOR (gMulI e51 e52)) fun e53 => R.bind (R.ok (.sh (.int 1))) fun e54 => ofOR (gAdd e53 e54)) fun e55 => R.bind (R.ok []) fun l56 => .ok (e55 :: l56)) fun l58 => .ok (e57 :: l58)) fun l59 => q__law_stir (l59.map fz)) fun e62 => R.bind (R.bind (R.ok (.sh (nd t30 0))) fun e60 => R.bind (R.ok (.sh (.int 1))) fun e61 => ofOR (gAdd e60 e61)) fun e63 => ofOR (gModI e62 e63)) fun e66 => R.bind (R.bind (R.ok (.sh (nd t30 1))) fun e64 => R.bind (R.ok []) fun l65 => .ok (e64 :: l65)) fun l67 => .ok (e66 :: l67)) fun l69 => R.bind (mutR mIns s28 l69) fun r70 => .ok r70.1)) fun v68 => .next v68
theorem okq__law_order_1 (a1 : PyData) (t30 : List PyData) (x29 : PyData) (s28 : OV) : jS b__law_order_1 [.ex (.sh a1), .no, .ex s28, .ex (.sh (nd t30 0)), .ex (.sh (nd t30 1))] (q__law_order_1 a1 t30 x29 s28) (fun (s28 : OV) => [.ex (.sh a1), .no, .ex s28, .no, .no]) := by
  unfold q__law_order_1 b__law_order_1
  exact (js_seq (st1 := fun (v68 : OV) => [.ex (.sh a1), .no, .ex v68, .ex (.sh (nd t30 0)), .ex (.sh (nd t30 1))]) (js_mut rfl (j_lcons (j_bin (j_call okq__law_stir (j_lcons (j_v rfl) (j_lcons (j_bin (j_bin j_c (j_v rfl)) j_c) j_lnil))) (j_bin (j_v rfl) j_c)) (j_lcons (j_v rfl) j_lnil)) rfl) fun v68 => (js_nil (by exact (.eq (.eq (.eq (.no (.no .nil))))))))
def q__law_order_0 (a1 : PyData) (a2 : PyData) : O Unit :=
  O.bind (O.of (R.bind (R.ok []) fun l3 => szR l3.length (.lst l3))) fun v4 => O.bind (O.bind (O.of (R.bind (R.ok (.sh a2)) enR)) fun z71 => forO z71 (fun x29 s28 => O.bind (O.of (unT 2 (fz (.sh x29)))) fun t30 => q__law_order_1 a1 t30 x29 s28) v4) fun s72 => O.bind (O.of (R.ok s72)) fun o73 => .ret o73
theorem okq__law_order_0 (a1 : PyData) (a2 : PyData) : jS b__law_order [.ex (.sh a1), .ex (.sh a2), .un, .un, .un] (q__law_order_0 a1 a2) (fun _ : Unit => [.no, .no, .no, .no, .no]) := by
  unfold q__law_order_0 b__law_order
  exact (js_seq (st1 := fun (v4 : OV) => [.ex (.sh a1), .ex (.sh a2), .ex v4, .un, .un]) (js_set (j_lst j_lnil)) fun v4 => (js_seq (st1 := fun (s72 : OV) => [.ex (.sh a1), .no, .ex s72, .no, .no]) (js_for (st := fun (s28 : OV) => [.ex (.sh a1), .no, .ex s28, .no, .no]) (pt := fun x29 s28 t30 => [.ex (.sh a1), .no, .ex s28, .ex (.sh (nd t30 0)), .ex (.sh (nd t30 1))]) (j_ienum (j_v rfl)) (by exact (.eq (.no (.eq (.eq (.eq .nil)))))) (fun x29 s28 => (jt_tup fun t30 => (jts_cons (by decide) (jts_cons (by decide) jts_nil)))) (fun x29 s28 t30 => okq__law_order_1 a1 t30 x29 s28) (fun _ => rfl)) fun s72 => (js_retc (j_m rfl))))
def q__law_order : List PyData → R OV
  | [a1, a2] => O.fin (q__law_order_0 a1 a2)
  | _ => .stk
theorem okq__law_order : jP m__law_order q__law_order := fun ds => match ds with
  | [a1, a2] => j_def (qq := q__law_order_0 a1 a2) (okq__law_order_0 a1 a2)
  | [] => trivial
  | [_] => trivial
  | _ :: _ :: _ :: _ => trivial
end Com
namespace Com
open PySem PySem.Spec L2 Ev
open PyProof.Rows hiding St
local macro_rules | `(tactic| decreasing_trivial_pre_omega) => `(tactic| simp only [↓R.bind_ok, ↓R.bind_exc, ↓R.bind_stk, ↓O.bind_next, ↓O.bind_ret, ↓O.bind_exc, ↓O.bind_stk, R.bind_ok, R.bind_exc, R.bind_stk, O.bind_next, O.bind_ret, O.bind_exc, O.bind_stk, O.of_ok, O.of_exc, O.of_stk, O.fin_next, O.fin_ret, O.fin_exc, ofOR_some, ofPR_some, toBR_b, andR_b, orR_b, chR_b, iR_i, noX_ok, szR_lit, Option.isSome_some, Option.isSome_none, mutR_app, mutR_some, ownR_lst, ownR_dk, ownR_dt, itR_tup, itR_list, itR_lst, unT_l2, unT_l3, unT_l4, unT_l5, unT_l6, unT_l7, unL_l2, unL_l3, unL_l4, unL_l5, unL_l6, unL_l7, nd0, nd1, nd2, nd3, nd4, nd5, nd6, par2R_ok, gAdd_int, gII_ok, gI_int, gOrd_int, gEq_int, fz_sh, fz_lst, gNot_b, g1, g1_one, gi_int_none, gi_int_bool, gi_int_int, gi_int_str, gi_int_list, gi_int_tuple, gi_bool_none, gi_bool_bool, gi_bool_int, gi_bool_str, gi_bool_list, gi_bool_tuple, gi_str_none, gi_str_bool, gi_str_int, gi_str_str, gi_str_list, gi_str_tuple, gi_list_none, gi_list_bool, gi_list_int, gi_list_str, gi_list_list, gi_list_tuple, gi_tuple_none, gi_tuple_bool, gi_tuple_int, gi_tuple_str, gi_tuple_list, gi_tuple_tuple, gMax_two, mApp_ok, ownT_lst, dLen_list, dLen_tup, gSub_list, gSub_tup, gSub_lst, atI_l0, atI_l1, atI_l2, atI_l3, atI_l4, atI_l5, atI_l6, Option.map_some, dInt_b, dInt_i, dAbs_i, List.map_cons, List.map_nil, List.cons_append, List.nil_append, if_true, if_false, Bool.false_eq_true, decide_true, decide_false, Bool.false_xor, Bool.true_xor, decide_eq_true_eq, List.length_cons, List.length_nil, nl0, nl1, nl2, nl3, nl4, nl5, nl6, nl7, nl8, nl9, nl10, nl11, nl12, nl13, nl14, nl15, nl16, nl17, nl18, nl19, nl20, Nat.reduceAdd, Nat.reduceSub, Nat.reduceMul, Int.reduceLT, Int.reduceEq, Int.reduceSub, Int.reduceAdd, Int.reduceNeg, Int.reduceLE, Int.reduceMul, Int.reduceToNat, sz_le, sz_lt, Nat.reduceLeDiff, Nat.reduceLT, Bool.not_true, Bool.not_false, Bool.true_and, Bool.and_true, Bool.false_and, Bool.and_false, Bool.true_or, Bool.or_true, Bool.false_or, Bool.or_false, rite_and, rite_or, rb_and, rb_or, Bool.decide_eq_true, Bool.decide_and, Bool.decide_or, gAdd_LL, gAdd_Ll, gAdd_lL, gAdd_lst, gAdd_TT, map_sh_fz, map_fz_shL, List.length_map, gEq_bool, eq_self, forO_nil, forO_cons, lcR_nil, rng1R_ok, rng2R_ok])
local macro_rules | `(tactic| get_elem_tactic_trivial) => `(tactic| simp only [↓R.bind_ok, ↓R.bind_exc, ↓R.bind_stk, ↓O.bind_next, ↓O.bind_ret, ↓O.bind_exc, ↓O.bind_stk, R.bind_ok, R.bind_exc, R.bind_stk, O.bind_next, O.bind_ret, O.bind_exc, O.bind_stk, O.of_ok, O.of_exc, O.of_stk, O.fin_next, O.fin_ret, O.fin_exc, ofOR_some, ofPR_some, toBR_b, andR_b, orR_b, chR_b, iR_i, noX_ok, szR_lit, Option.isSome_some, Option.isSome_none, mutR_app, mutR_some, ownR_lst, ownR_dk, ownR_dt, itR_tup, itR_list, itR_lst, unT_l2, unT_l3, unT_l4, unT_l5, unT_l6, unT_l7, unL_l2, unL_l3, unL_l4, unL_l5, unL_l6, unL_l7, nd0, nd1, nd2, nd3, nd4, nd5, nd6, par2R_ok, gAdd_int, gII_ok, gI_int, gOrd_int, gEq_int, fz_sh, fz_lst, gNot_b, g1, g1_one, gi_int_none, gi_int_bool, gi_int_int, gi_int_str, gi_int_list, gi_int_tuple, gi_bool_none, gi_bool_bool, gi_bool_int, gi_bool_str, gi_bool_list, gi_bool_tuple, gi_str_none, gi_str_bool, gi_str_int, gi_str_str, gi_str_list, gi_str_tuple, gi_list_none, gi_list_bool, gi_list_int, gi_list_str, gi_list_list, gi_list_tuple, gi_tuple_none, gi_tuple_bool, gi_tuple_int, gi_tuple_str, gi_tuple_list, gi_tuple_tuple, gMax_two, mApp_ok, ownT_lst, dLen_list, dLen_tup, gSub_list, gSub_tup, gSub_lst, atI_l0, atI_l1, atI_l2, atI_l3, atI_l4, atI_l5, atI_l6, Option.map_some, dInt_b, dInt_i, dAbs_i, List.map_cons, List.map_nil, List.cons_append, List.nil_append, if_true, if_false, Bool.false_eq_true, decide_true, decide_false, Bool.false_xor, Bool.true_xor, decide_eq_true_eq, List.length_cons, List.length_nil, nl0, nl1, nl2, nl3, nl4, nl5, nl6, nl7, nl8, nl9, nl10, nl11, nl12, nl13, nl14, nl15, nl16, nl17, nl18, nl19, nl20, Nat.reduceAdd, Nat.reduceSub, Nat.reduceMul, Int.reduceLT, Int.reduceEq, Int.reduceSub, Int.reduceAdd, Int.reduceNeg, Int.reduceLE, Int.reduceMul, Int.reduceToNat, sz_le, sz_lt, Nat.reduceLeDiff, Nat.reduceLT, Bool.not_true, Bool.not_false, Bool.true_and, Bool.and_true, Bool.false_and, Bool.and_false, Bool.true_or, Bool.or_true, Bool.false_or, Bool.or_false, rite_and, rite_or, rb_and, rb_or, Bool.decide_eq_true, Bool.decide_and, Bool.decide_or, gAdd_LL, gAdd_Ll, gAdd_lL, gAdd_lst, gAdd_TT, map_sh_fz, map_fz_shL, List.length_map, gEq_bool, eq_self, forO_nil, forO_cons, lcR_nil, rng1R_ok, rng2R_ok, *])
/-! ### ships -/
structure Ship where
  r : Int
  c : Int
  al : Bool
  n : Nat
deriving DecidableEq
abbrev Cell := Int × Int
def cD (p : Cell) : PyData := .tuple [.int p.1, .int p.2]
def wayS (al : Bool) : Str := if al = true then "along" else "down"
def Ship.d (s : Ship) : PyData := .tuple [.int s.r, .int s.c, .str (wayS s.al), .int s.n]
def Ship.cells (s : Ship) : List Cell := (List.range s.n).map fun k => if s.al = true then (s.r, s.c + (k : Nat)) else (s.r + (k : Nat), s.c)
theorem str_ok (b : Bool) : PyData.strOk (wayS b) = true := by cases b <;> decide +kernel
theorem along_ok : PyData.strOk ("along" : Str) = true := by decide +kernel
theorem down_ok : PyData.strOk ("down" : Str) = true := by decide +kernel
theorem way_along (b : Bool) : decide (wayS b = ("along" : Str)) = b := by cases b <;> decide +kernel
theorem way_down (b : Bool) : decide (wayS b = ("down" : Str)) = !b := by cases b <;> decide +kernel
theorem gEq_along {b : Bool} : gEq false (.sh (.str (wayS b))) (.sh (.str "along")) = some (.sh (.bool b)) := by
  rw [gEq_str (str_ok b) along_ok, way_along, Bool.false_xor]
theorem gEq_down {b : Bool} : gEq false (.sh (.str (wayS b))) (.sh (.str "down")) = some (.sh (.bool (!b))) := by
  rw [gEq_str (str_ok b) down_ok, way_down, Bool.false_xor]
theorem len_cells (s : Ship) : s.cells.length = s.n := by simp [Ship.cells]
theorem cells_q {s : Ship} (hn : s.n ≤ 1000) : q_cells_of [s.d] = .ok (shL cD s.cells) := by
  obtain ⟨r, c, al, n⟩ := s
  have hn : n ≤ 1000 := hn
  unfold q_cells_of q_cells_of_0 Ship.d
  decreasing_trivial_pre_omega
  rw [gEq_along]
  decreasing_trivial_pre_omega
  rw [rng1R_n (by omega)]
  decreasing_trivial_pre_omega
  cases al with
  | true =>
    decreasing_trivial_pre_omega
    rw [lcR_map _ fun k : Nat => .sh (cD (r, c + k))]
    · decreasing_trivial_pre_omega
      rw [szR_le (by rw [List.length_range, sizeLine_eq]; omega)]
      decreasing_trivial_pre_omega
      simp [shL, Ship.cells]
    · intro k _; decreasing_trivial_pre_omega; rfl
  | false =>
    decreasing_trivial_pre_omega
    rw [lcR_map _ fun k : Nat => .sh (cD (r + k, c))]
    · decreasing_trivial_pre_omega
      rw [szR_le (by rw [List.length_range, sizeLine_eq]; omega)]
      decreasing_trivial_pre_omega
      simp [shL, Ship.cells]
    · intro k _; decreasing_trivial_pre_omega; rfl
theorem flat_one {α β : Type} (f : α → β) : ∀ xs : List α, xs.flatMap (fun x => [f x]) = xs.map f
  | [] => rfl
  | x :: xs => by rw [List.flatMap_cons, flat_one f xs]; rfl
theorem gMul_n {i j : Int} (h : -1000 ≤ j ∧ j ≤ 1000) : gMulI (.sh (.int i)) (.sh (.int j)) = some (.sh (.int (i * j))) := gII_ok (mulOk_r ⟨by omega, by omega⟩)
theorem law_cells_q {s : Ship} (hn : s.n ≤ 1000) : q__law_cells [s.d] = .ok (shL cD s.cells) := by
  obtain ⟨r, c, al, n⟩ := s
  have hn : n ≤ 1000 := hn
  unfold q__law_cells q__law_cells_0 Ship.d
  decreasing_trivial_pre_omega
  rw [rng1R_n (by omega)]
  decreasing_trivial_pre_omega
  rw [forO_g0 (fun k : Nat => .int (k : Nat)) cD (fun k : Nat => [if al = true then (r, c + (k : Nat)) else (r + (k : Nat), c)]) 1000]
  · decreasing_trivial_pre_omega
    rw [flat_one]
    rfl
  · rw [flat_one, List.length_map, List.length_range]; exact hn
  · intro k _ a ha
    rw [List.length_singleton] at ha
    unfold q__law_cells_1
    have h0 : ∀ p : Cell, mutR mApp (shL cD a) [.sh (cD p)] = .ok (shL cD (a ++ [p]), .sh .none) := fun p => mutR_some (app_shL (en := cD) (by rw [sizeLine_eq]; omega))
    decreasing_trivial_pre_omega
    rw [gEq_along, gEq_down]
    decreasing_trivial_pre_omega
    cases al with
    | true =>
      (try decreasing_trivial_pre_omega)
      rw [gMul_n (by omega), gMul_n (by omega)]
      decreasing_trivial_pre_omega
      rw [Int.mul_zero, Int.mul_one, Int.add_zero, show (PyData.tuple [.int r, .int (c + (k : Nat))]) = cD (r, c + (k : Nat)) from rfl, h0]
      decreasing_trivial_pre_omega
    | false =>
      (try decreasing_trivial_pre_omega)
      rw [gMul_n (by omega), gMul_n (by omega)]
      decreasing_trivial_pre_omega
      rw [Int.mul_zero, Int.mul_one, Int.add_zero, show (PyData.tuple [.int (r + (k : Nat)), .int c]) = cD (r + (k : Nat), c) from rfl, h0]
      decreasing_trivial_pre_omega
/-! the ships of a length -/
def shipsAt (R C l r c : Nat) : List Ship := (if c + l ≤ C then [⟨r, c, true, l⟩] else []) ++ (if r + l ≤ R ∧ 1 < l then [⟨r, c, false, l⟩] else [])
def ships (R C l : Nat) : List Ship := (List.range R).flatMap fun r => (List.range C).flatMap fun c => shipsAt R C l r c
theorem flat_le {α β : Type} {f : α → List β} {m : Nat} : ∀ xs : List α, (∀ x ∈ xs, (f x).length ≤ m) → (xs.flatMap f).length ≤ xs.length * m
  | [], _ => by simp
  | x :: xs, h => by
    have := flat_le xs fun y hy => h y (List.mem_cons_of_mem _ hy)
    have := h x List.mem_cons_self
    rw [List.flatMap_cons, List.length_append, List.length_cons, Nat.succ_mul]
    omega
theorem shipsAt_len {R C l r c : Nat} : (shipsAt R C l r c).length ≤ 2 := by
  unfold shipsAt
  rw [List.length_append]
  by_cases a : c + l ≤ C <;> by_cases b : r + l ≤ R ∧ 1 < l <;> simp [a, b]
theorem shipsRow_len {R C l r : Nat} : ((List.range C).flatMap fun c => shipsAt R C l r c).length ≤ C * 2 := by
  have := flat_le (f := fun c => shipsAt R C l r c) (List.range C) fun c _ => shipsAt_len
  rwa [List.length_range] at this
theorem ships_len {R C l : Nat} : (ships R C l).length ≤ R * (C * 2) := by
  have := flat_le (f := fun r => (List.range C).flatMap fun c => shipsAt R C l r c) (List.range R) fun r _ => shipsRow_len
  rwa [List.length_range] at this
theorem law_ships_q {R C l : Nat} (hR : R ≤ 100) (hC : C ≤ 100) : q__law_ships [cD (R, C), .int (l : Nat)] = .ok (shL Ship.d (ships R C l)) := by
  have hb : R * (C * 2) ≤ 100 * 200 := Nat.mul_le_mul (by omega) (by omega)
  unfold q__law_ships q__law_ships_0 cD
  decreasing_trivial_pre_omega
  rw [rng1R_n (by omega)]
  decreasing_trivial_pre_omega
  rw [forO_g0 (fun k : Nat => .int (k : Nat)) Ship.d (fun r => (List.range C).flatMap fun c => shipsAt R C l r c) 20000]
  · decreasing_trivial_pre_omega
    rfl
  · exact Nat.le_trans ships_len (by omega)
  · intro r _ a ha
    unfold q__law_ships_2
    decreasing_trivial_pre_omega
    rw [rng1R_n (by omega)]
    decreasing_trivial_pre_omega
    rw [forO_g1 (fun k : Nat => .int (k : Nat)) Ship.d (fun c => shipsAt R C l r c) 20000]
    · decreasing_trivial_pre_omega
    · exact ha
    · intro c _ a ha
      have h2 := shipsAt_len (R := R) (C := C) (l := l) (r := r) (c := c)
      have e1 : ∀ a : List Ship, a.length ≤ 20000 → mApp (shL Ship.d a) [.sh (.tuple [.int (r : Nat), .int (c : Nat), .str "along", .int (l : Nat)])] = some (shL Ship.d (a ++ [⟨r, c, true, l⟩]), .sh .none) := fun a h => app_shL (en := Ship.d) (c := ⟨r, c, true, l⟩) (by rw [sizeLine_eq]; omega)
      have e2 : ∀ a : List Ship, a.length ≤ 20000 → mApp (shL Ship.d a) [.sh (.tuple [.int (r : Nat), .int (c : Nat), .str "down", .int (l : Nat)])] = some (shL Ship.d (a ++ [⟨r, c, false, l⟩]), .sh .none) := fun a h => app_shL (en := Ship.d) (c := ⟨r, c, false, l⟩) (by rw [sizeLine_eq]; omega)
      have c1 : ((c : Nat) : Int) + (l : Nat) ≤ (C : Nat) ↔ c + l ≤ C := by omega
      have c2 : ((r : Nat) : Int) + (l : Nat) ≤ (R : Nat) ↔ r + l ≤ R := by omega
      have c3 : (1 : Int) < (l : Nat) ↔ 1 < l := by omega
      have e3 := mutR_some (e1 a (by omega))
      have e4 := mutR_some (e2 a (by omega))
      unfold q__law_ships_1 shipsAt
      unfold shipsAt at ha
      by_cases a1 : c + l ≤ C
      · have e5 := mutR_some (e2 (a ++ [⟨r, c, true, l⟩]) (by rw [List.length_append]; simp [a1] at ha; simp; omega))
        clear ha hb hR hC h2 e1 e2
        by_cases a2 : r + l ≤ R
        · by_cases a3 : 1 < l
          · get_elem_tactic_trivial; simp
          · get_elem_tactic_trivial; simp
        · get_elem_tactic_trivial; simp
      · clear ha hb hR hC h2 e1 e2
        by_cases a2 : r + l ≤ R
        · by_cases a3 : 1 < l
          · get_elem_tactic_trivial; simp
          · get_elem_tactic_trivial; simp
        · get_elem_tactic_trivial; simp

/-! ### what is whole, a side, on a sheet, a ship -/
def wholeB : PyData → Bool
  | .int _ => true
  | _ => false
def sideB : PyData → Bool
  | .int i => decide (1 ≤ i) && decide (i ≤ 8)
  | _ => false
theorem gIsi_sh {T : String} {d : PyData} (h : isDict d = false) : gIsi T [.sh d] = some (.sh (.bool (isiB T d))) := by
  unfold gIsi
  simp only [fz_sh, h, Bool.false_eq_true, if_false]
theorem whole_q {d : PyData} (h : isDict d = false) : q_is_whole [d] = .ok (.sh (.bool (wholeB d))) := by
  unfold q_is_whole q_is_whole_0
  cases d with
  | dict _ => cases h
  | _ => decreasing_trivial_pre_omega; try rfl
theorem side_q {d : PyData} (h : isDict d = false) : q_is_side [d] = .ok (.sh (.bool (sideB d))) := by
  have w := whole_q h
  unfold q_is_side q_is_side_0
  cases d with
  | dict _ => cases h
  | int i =>
    simp only [wholeB] at w
    get_elem_tactic_trivial
    rfl
  | _ => simp only [wholeB] at w; get_elem_tactic_trivial; try rfl
def onB (R C : Int) (p : Cell) : Bool := (decide (0 ≤ p.1) && decide (p.1 < R)) && (decide (0 ≤ p.2) && decide (p.2 < C))
theorem on_q {R C : Int} {p : Cell} : q_is_on [cD (R, C), cD p] = .ok (.sh (.bool (onB R C p))) := by
  unfold q_is_on q_is_on_0 cD onB
  decreasing_trivial_pre_omega
def iOf : PyData → Int
  | .int i => i
  | _ => 0
/-- does a ship lie on a sheet -/
def Ship.on (R C : Int) (s : Ship) : Bool := s.cells.all (onB R C)
def shipB (R C : Int) : PyData → Bool
  | .tuple [a, b, .str w, l] => (decide (w = ("along" : Str)) || decide (w = ("down" : Str))) && (wholeB a && (wholeB b && (sideB l && (!(decide (iOf l = 1) && decide (w = ("down" : Str))) && Ship.on R C ⟨iOf a, iOf b, decide (w = ("along" : Str)), (iOf l).toNat⟩))))
  | _ => false
theorem whole_int {d : PyData} (h : wholeB d = true) : ∃ i, d = .int i := by cases d <;> first | exact ⟨_, rfl⟩ | cases h
theorem side_int {d : PyData} (h : sideB d = true) : ∃ i, d = .int i ∧ 1 ≤ i ∧ i ≤ 8 := by
  cases d with
  | int i => simp [sideB] at h; exact ⟨i, rfl, h.1, h.2⟩
  | _ => cases h
theorem boolsOf_map {α : Type} (f : α → Bool) : ∀ l : List α, boolsOf (l.map fun x => PyData.bool (f x)) = some (l.map f)
  | [] => rfl
  | x :: l => by simp [boolsOf, boolsOf_map f l]
/-- all(..), any(..) of a list of truths -/
theorem all_q {α : Type} (f : α → Bool) (l : List α) : dAll (fun bs => bs.all id) (.list (l.map fun x => .bool (f x))) = some (.sh (.bool (l.all f))) := by
  unfold dAll
  simp only [boolsOf_map, Option.map_some, List.all_map, Function.comp_def, id]
theorem any_q {α : Type} (f : α → Bool) (l : List α) : dAll (fun bs => bs.any id) (.list (l.map fun x => .bool (f x))) = some (.sh (.bool (l.any f))) := by
  unfold dAll
  simp only [boolsOf_map, Option.map_some, List.any_map, Function.comp_def, id]
theorem in_ways {w : Str} : Ev.gIn true (.sh (.str w)) (.sh (.tuple [.str "along", .str "down"])) = some (.sh (.bool (!(decide (w = ("along" : Str)) || decide (w = ("down" : Str)))))) := by
  have e1 : PyData.eqv (.str ("along" : Str)) (.str w) = decide (w = ("along" : Str)) := by rw [eqv_str]; exact decide_eq_decide.mpr eq_comm
  have e2 : PyData.eqv (.str ("down" : Str)) (.str w) = decide (w = ("down" : Str)) := by rw [eqv_str]; exact decide_eq_decide.mpr eq_comm
  unfold gIn
  simp only [fz_sh, flatD, List.all_cons, List.all_nil, Bool.and_self, and_self, if_true, List.any_cons, List.any_nil, e1, e2, Bool.or_false, Bool.true_xor]
theorem is_ship_no {R C : Int} {d : PyData} (h : isDict d = false) (ht : ∀ xs, d ≠ .tuple xs) : q_is_ship [cD (R, C), d] = .ok (.sh (.bool false)) := by
  unfold q_is_ship q_is_ship_0
  cases d with
  | dict _ => cases h
  | tuple xs => exact absurd rfl (ht xs)
  | _ => decreasing_trivial_pre_omega
theorem is_ship_len {R C : Int} {xs : List PyData} (hl : xs.length ≠ 4) : q_is_ship [cD (R, C), .tuple xs] = .ok (.sh (.bool false)) := by
  have hl' : ¬ ((xs.length : Nat) : Int) = 4 := by omega
  unfold q_is_ship q_is_ship_0
  get_elem_tactic_trivial
theorem shl_bools {α : Type} (f : α → Bool) (l : List α) : fz (.lst (l.map fun x => .sh (.bool (f x)))) = .list (l.map fun x => .bool (f x)) := fz_shL (e := fun x => .bool (f x))
/-- a well-made ship -/
theorem is_ship_s {R C : Int} {s : Ship} (h1 : 1 ≤ s.n) (h8 : s.n ≤ 8) : q_is_ship [cD (R, C), s.d] = .ok (.sh (.bool (!(decide (s.n = 1) && !s.al) && s.on R C))) := by
  have cq := cells_q (s := s) (by omega)
  have wr := whole_q (d := .int s.r) rfl
  have wc := whole_q (d := .int s.c) rfl
  have sl := side_q (d := .int s.n) rfl
  have iw := in_ways (w := wayS s.al)
  have ww : (decide (wayS s.al = ("along" : Str)) || decide (wayS s.al = ("down" : Str))) = true := by rw [way_along, way_down]; cases s.al <;> rfl
  rw [ww] at iw
  simp only [wholeB] at wr wc
  have e1 : sideB (.int s.n) = true := by simp [sideB]; omega
  rw [e1] at sl
  have sz := len_cells s
  have al := all_q (onB R C) s.cells
  have gd := gEq_down (b := s.al)
  have e2 : ((s.n : Nat) : Int) = 1 ↔ s.n = 1 := by omega
  unfold q_is_ship q_is_ship_0
  unfold Ship.d at cq ⊢
  have sz2 : s.cells.length ≤ sizeLine := by rw [sz, sizeLine_eq]; omega
  have fm := map_fz_shL (e := cD) (xs := s.cells)
  have gd' : gEq false (.sh (.int (s.n : Nat))) (.sh (.int 1)) = some (.sh (.bool (decide (s.n = 1)))) := by rw [gEq_int, Bool.false_xor]; exact congrArg _ (congrArg _ (congrArg _ (decide_eq_decide.mpr e2)))
  clear ww e1 e2 sz
  get_elem_tactic_trivial
  by_cases hb : s.n = 1 ∧ s.al = false
  · obtain ⟨h1', h2'⟩ := hb
    simp [h1', h2', O.bind_ret, O.fin_ret, Ev.R.bind_ok, O.of_ok]
  · have hb' : (decide (s.n = 1) && !s.al) = false := by
      cases q : s.al <;> simp [q] at hb ⊢ <;> exact hb
    simp only [hb', Bool.false_eq_true, if_false]
    decreasing_trivial_pre_omega
    rw [lcR_map cD fun p => .sh (.bool (onB R C p))]
    · decreasing_trivial_pre_omega
      rw [szR_le sz2]
      decreasing_trivial_pre_omega
      rw [al]
      decreasing_trivial_pre_omega
      rfl
    · intro p _; (try decreasing_trivial_pre_omega); rw [on_q]; decreasing_trivial_pre_omega

theorem onB_iff {R C : Int} {p : Cell} : onB R C p = true ↔ 0 ≤ p.1 ∧ p.1 < R ∧ 0 ≤ p.2 ∧ p.2 < C := by
  unfold onB
  simp only [Bool.and_eq_true, decide_eq_true_eq, and_assoc]
theorem on_along {R C r c : Int} {n : Nat} (hn : 0 < n) : Ship.on R C ⟨r, c, true, n⟩ = true ↔ 0 ≤ r ∧ r < R ∧ 0 ≤ c ∧ c + n ≤ C := by
  unfold Ship.on Ship.cells
  simp only [if_true, List.all_map, List.all_eq_true, List.mem_range, Function.comp, onB_iff]
  constructor
  · intro h
    have h0 := h 0 hn
    have h1 := h (n - 1) (by omega)
    omega
  · intro h k hk
    omega
theorem on_down {R C r c : Int} {n : Nat} (hn : 0 < n) : Ship.on R C ⟨r, c, false, n⟩ = true ↔ 0 ≤ r ∧ r + n ≤ R ∧ 0 ≤ c ∧ c < C := by
  unfold Ship.on Ship.cells
  simp only [Bool.false_eq_true, if_false, List.all_map, List.all_eq_true, List.mem_range, Function.comp, onB_iff]
  constructor
  · intro h
    have h0 := h 0 hn
    have h1 := h (n - 1) (by omega)
    omega
  · intro h k hk
    omega
/-- is it a ship of the document -/
def Ship.ok (R C : Int) (s : Ship) : Bool := !(decide (s.n = 1) && !s.al) && s.on R C
theorem ways_at {R C l r c : Nat} (hl : 1 ≤ l) (hr : r < R) (hc : c < C) : (([true, false].filter fun b => Ship.ok R C ⟨r, c, b, l⟩).map fun b => (⟨r, c, b, l⟩ : Ship)) = shipsAt R C l r c := by
  have a1 : Ship.ok R C ⟨r, c, true, l⟩ = decide (c + l ≤ C) := by
    unfold Ship.ok
    rw [Bool.not_true, Bool.and_false, Bool.not_false, Bool.true_and, Bool.eq_iff_iff, on_along (by omega), decide_eq_true_eq]
    omega
  have a2 : Ship.ok R C ⟨r, c, false, l⟩ = decide (r + l ≤ R ∧ 1 < l) := by
    unfold Ship.ok
    rw [Bool.eq_iff_iff, Bool.and_eq_true, on_down (by omega), decide_eq_true_eq]
    simp
    omega
  unfold shipsAt
  by_cases h1 : c + l ≤ C <;> by_cases h2 : r + l ≤ R ∧ 1 < l <;> simp [h1, h2, a1, a2]
theorem ships_none {R C l : Nat} (h1 : R < l) (h2 : C < l) : ships R C l = [] := by
  unfold ships shipsAt
  have e : ∀ r c : Nat, (if c + l ≤ C then [(⟨r, c, true, l⟩ : Ship)] else []) ++ (if r + l ≤ R ∧ 1 < l then [⟨r, c, false, l⟩] else []) = [] := fun r c => by
    rw [if_neg (by omega), if_neg (by omega)]; rfl
  simp [e]
theorem ships_q {R C l : Nat} (hl : 1 ≤ l) (hR : R ≤ 8) (hC : C ≤ 8) : q_ships_of [cD (R, C), .int (l : Nat)] = .ok (shL Ship.d (ships R C l)) := by
  have hb : R * (C * 2) ≤ 8 * 16 := Nat.mul_le_mul (by omega) (by omega)
  have e8 : ((8 : Int) < (l : Nat)) ↔ 8 < l := by omega
  unfold q_ships_of q_ships_of_0 cD
  decreasing_trivial_pre_omega
  by_cases h8 : 8 < l
  · rw [ships_none (by omega) (by omega)]
    get_elem_tactic_trivial
    rfl
  · simp only [e8, h8, if_false]
    decreasing_trivial_pre_omega
    rw [rng1R_n (by omega)]
    decreasing_trivial_pre_omega
    rw [forO_g0 (fun k : Nat => .int (k : Nat)) Ship.d (fun r => (List.range C).flatMap fun c => shipsAt R C l r c) 20000]
    · decreasing_trivial_pre_omega
      rfl
    · exact Nat.le_trans ships_len (by omega)
    · intro r hr a ha
      rw [List.mem_range] at hr
      unfold q_ships_of_2
      decreasing_trivial_pre_omega
      rw [rng1R_n (by omega)]
      decreasing_trivial_pre_omega
      rw [forO_g1 (fun k : Nat => .int (k : Nat)) Ship.d (fun c => shipsAt R C l r c) 20000]
      · decreasing_trivial_pre_omega
      · exact ha
      · intro c hc a ha
        rw [List.mem_range] at hc
        unfold q_ships_of_1
        decreasing_trivial_pre_omega
        rw [show [PyData.str ("along" : Str), .str ("down" : Str)] = [true, false].map fun b => PyData.str (wayS b) from rfl, lcR_filter (fun b => .str (wayS b)) (fun b => Ship.ok R C ⟨r, c, b, l⟩) fun b => .sh (Ship.d ⟨r, c, b, l⟩)]
        · have h2 := shipsAt_len (R := R) (C := C) (l := l) (r := r) (c := c)
          have w := ways_at hl hr hc
          have e : (([true, false].filter fun b => Ship.ok R C ⟨r, c, b, l⟩).map fun b => OV.sh (Ship.d ⟨r, c, b, l⟩)) = (shipsAt R C l r c).map fun s => .sh s.d := by rw [← w, List.map_map]; rfl
          decreasing_trivial_pre_omega
          rw [e, szR_le (Nat.le_trans (List.length_filter_le _ _) (by rw [sizeLine_eq]; decide))]
          decreasing_trivial_pre_omega
          rw [mutR_some (ext_shL (by rw [sizeLine_eq]; omega))]
          decreasing_trivial_pre_omega
        · intro b _
          have q := is_ship_s (R := R) (C := C) (s := ⟨r, c, b, l⟩) hl (by omega : l ≤ 8)
          unfold Ship.d cD at q
          get_elem_tactic_trivial
          rfl
/-! ### rules -/
inductive Rule | free | sides | corners
deriving DecidableEq
def Rule.s : Rule → Str
  | .free => "free" | .sides => "sides" | .corners => "corners"
def Rule.tog : Rule → Int
  | .free => 0 | .sides => 1 | .corners => 2
def Rule.eith : Rule → Int
  | .free => 0 | .sides => 1 | .corners => 1
abbrev Rule.d (u : Rule) : PyData := .str u.s
theorem rule_ok (u : Rule) : PyData.strOk u.s = true := by cases u <;> decide +kernel
theorem reach_q (u : Rule) : q_reach [u.d] = .ok (.sh (.tuple [.int u.tog, .int u.eith])) := by
  cases u <;> rfl
def ab (i : Int) : Int := if i < 0 then -i else i
def near (u : Rule) (p q : Cell) : Bool := decide (ab (p.1 - q.1) + ab (p.2 - q.2) ≤ u.tog) && decide (max2 (ab (p.1 - q.1)) (ab (p.2 - q.2)) ≤ u.eith)
theorem near_q {u : Rule} {p q : Cell} : q_too_near [u.d, cD p, cD q] = .ok (.sh (.bool (near u p q))) := by
  have h := reach_q u
  unfold q_too_near q_too_near_0 cD
  unfold Rule.d at h ⊢
  get_elem_tactic_trivial
  rfl
def keepB (u : Rule) (s t : Ship) : Bool := s.cells.all fun p => t.cells.all fun q => !near u p q
theorem keep_q {u : Rule} {s t : Ship} (hs : s.n ≤ 1000) (ht : t.n ≤ 1000) : q_keep [u.d, s.d, t.d] = .ok (.sh (.bool (keepB u s t))) := by
  have a := cells_q hs
  have b := cells_q ht
  unfold q_keep q_keep_0
  get_elem_tactic_trivial
  rw [forO_all (o := .sh (.bool false)) cD fun p => t.cells.all fun q => !near u p q]
  · unfold keepB
    cases (s.cells.all fun p => t.cells.all fun q => !near u p q) <;> decreasing_trivial_pre_omega
  · intro p _
    unfold q_keep_2
    get_elem_tactic_trivial
    rw [forO_all (o := .sh (.bool false)) cD fun q => !near u p q]
    · cases (t.cells.all fun q => !near u p q) <;> decreasing_trivial_pre_omega
    · intro q _
      unfold q_keep_1
      decreasing_trivial_pre_omega
      rw [near_q]
      cases near u p q <;> decreasing_trivial_pre_omega
end Com
namespace Com
open PySem PySem.Spec L2 Ev
open PyProof.Rows hiding St
local macro_rules | `(tactic| decreasing_trivial_pre_omega) => `(tactic| simp only [↓R.bind_ok, ↓R.bind_exc, ↓R.bind_stk, ↓O.bind_next, ↓O.bind_ret, ↓O.bind_exc, ↓O.bind_stk, R.bind_ok, R.bind_exc, R.bind_stk, O.bind_next, O.bind_ret, O.bind_exc, O.bind_stk, O.of_ok, O.of_exc, O.of_stk, O.fin_next, O.fin_ret, O.fin_exc, ofOR_some, ofPR_some, toBR_b, andR_b, orR_b, chR_b, iR_i, noX_ok, szR_lit, Option.isSome_some, Option.isSome_none, mutR_app, mutR_some, ownR_lst, ownR_dk, ownR_dt, itR_tup, itR_list, itR_lst, unT_l2, unT_l3, unT_l4, unT_l5, unT_l6, unT_l7, unL_l2, unL_l3, unL_l4, unL_l5, unL_l6, unL_l7, nd0, nd1, nd2, nd3, nd4, nd5, nd6, par2R_ok, gAdd_int, gII_ok, gI_int, gOrd_int, gEq_int, fz_sh, fz_lst, gNot_b, g1, g1_one, gi_int_none, gi_int_bool, gi_int_int, gi_int_str, gi_int_list, gi_int_tuple, gi_bool_none, gi_bool_bool, gi_bool_int, gi_bool_str, gi_bool_list, gi_bool_tuple, gi_str_none, gi_str_bool, gi_str_int, gi_str_str, gi_str_list, gi_str_tuple, gi_list_none, gi_list_bool, gi_list_int, gi_list_str, gi_list_list, gi_list_tuple, gi_tuple_none, gi_tuple_bool, gi_tuple_int, gi_tuple_str, gi_tuple_list, gi_tuple_tuple, gMax_two, mApp_ok, ownT_lst, dLen_list, dLen_tup, gSub_list, gSub_tup, gSub_lst, atI_l0, atI_l1, atI_l2, atI_l3, atI_l4, atI_l5, atI_l6, Option.map_some, dInt_b, dInt_i, dAbs_i, List.map_cons, List.map_nil, List.cons_append, List.nil_append, if_true, if_false, Bool.false_eq_true, decide_true, decide_false, Bool.false_xor, Bool.true_xor, decide_eq_true_eq, List.length_cons, List.length_nil, nl0, nl1, nl2, nl3, nl4, nl5, nl6, nl7, nl8, nl9, nl10, nl11, nl12, nl13, nl14, nl15, nl16, nl17, nl18, nl19, nl20, Nat.reduceAdd, Nat.reduceSub, Nat.reduceMul, Int.reduceLT, Int.reduceEq, Int.reduceSub, Int.reduceAdd, Int.reduceNeg, Int.reduceLE, Int.reduceMul, Int.reduceToNat, sz_le, sz_lt, Nat.reduceLeDiff, Nat.reduceLT, Bool.not_true, Bool.not_false, Bool.true_and, Bool.and_true, Bool.false_and, Bool.and_false, Bool.true_or, Bool.or_true, Bool.false_or, Bool.or_false, rite_and, rite_or, rb_and, rb_or, Bool.decide_eq_true, Bool.decide_and, Bool.decide_or, gAdd_LL, gAdd_Ll, gAdd_lL, gAdd_lst, gAdd_TT, map_sh_fz, map_fz_shL, List.length_map, gEq_bool, eq_self, forO_nil, forO_cons, lcR_nil, rng1R_ok, rng2R_ok])
local macro_rules | `(tactic| get_elem_tactic_trivial) => `(tactic| simp only [↓R.bind_ok, ↓R.bind_exc, ↓R.bind_stk, ↓O.bind_next, ↓O.bind_ret, ↓O.bind_exc, ↓O.bind_stk, R.bind_ok, R.bind_exc, R.bind_stk, O.bind_next, O.bind_ret, O.bind_exc, O.bind_stk, O.of_ok, O.of_exc, O.of_stk, O.fin_next, O.fin_ret, O.fin_exc, ofOR_some, ofPR_some, toBR_b, andR_b, orR_b, chR_b, iR_i, noX_ok, szR_lit, Option.isSome_some, Option.isSome_none, mutR_app, mutR_some, ownR_lst, ownR_dk, ownR_dt, itR_tup, itR_list, itR_lst, unT_l2, unT_l3, unT_l4, unT_l5, unT_l6, unT_l7, unL_l2, unL_l3, unL_l4, unL_l5, unL_l6, unL_l7, nd0, nd1, nd2, nd3, nd4, nd5, nd6, par2R_ok, gAdd_int, gII_ok, gI_int, gOrd_int, gEq_int, fz_sh, fz_lst, gNot_b, g1, g1_one, gi_int_none, gi_int_bool, gi_int_int, gi_int_str, gi_int_list, gi_int_tuple, gi_bool_none, gi_bool_bool, gi_bool_int, gi_bool_str, gi_bool_list, gi_bool_tuple, gi_str_none, gi_str_bool, gi_str_int, gi_str_str, gi_str_list, gi_str_tuple, gi_list_none, gi_list_bool, gi_list_int, gi_list_str, gi_list_list, gi_list_tuple, gi_tuple_none, gi_tuple_bool, gi_tuple_int, gi_tuple_str, gi_tuple_list, gi_tuple_tuple, gMax_two, mApp_ok, ownT_lst, dLen_list, dLen_tup, gSub_list, gSub_tup, gSub_lst, atI_l0, atI_l1, atI_l2, atI_l3, atI_l4, atI_l5, atI_l6, Option.map_some, dInt_b, dInt_i, dAbs_i, List.map_cons, List.map_nil, List.cons_append, List.nil_append, if_true, if_false, Bool.false_eq_true, decide_true, decide_false, Bool.false_xor, Bool.true_xor, decide_eq_true_eq, List.length_cons, List.length_nil, nl0, nl1, nl2, nl3, nl4, nl5, nl6, nl7, nl8, nl9, nl10, nl11, nl12, nl13, nl14, nl15, nl16, nl17, nl18, nl19, nl20, Nat.reduceAdd, Nat.reduceSub, Nat.reduceMul, Int.reduceLT, Int.reduceEq, Int.reduceSub, Int.reduceAdd, Int.reduceNeg, Int.reduceLE, Int.reduceMul, Int.reduceToNat, sz_le, sz_lt, Nat.reduceLeDiff, Nat.reduceLT, Bool.not_true, Bool.not_false, Bool.true_and, Bool.and_true, Bool.false_and, Bool.and_false, Bool.true_or, Bool.or_true, Bool.false_or, Bool.or_false, rite_and, rite_or, rb_and, rb_or, Bool.decide_eq_true, Bool.decide_and, Bool.decide_or, gAdd_LL, gAdd_Ll, gAdd_lL, gAdd_lst, gAdd_TT, map_sh_fz, map_fz_shL, List.length_map, gEq_bool, eq_self, forO_nil, forO_cons, lcR_nil, rng1R_ok, rng2R_ok, *])
/-! ### dicts that hold cells -/
abbrev cK (p : Cell) : List Key := [.inl p.1, .inl p.2]
/-- a dict of cells, all True -/
def dtC (l : List Cell) : OV := .dt (l.map fun p => (cK p, .sh (.bool true)))
def dtD (l : List Cell) : PyData := .dict ((.none, .none) :: l.map fun p => (cD p, .bool true))
theorem fz_dtC (l : List Cell) : fz (dtC l) = dtD l := by
  unfold dtC dtD
  rw [fz, fzt_eq, List.map_map]
  refine congrArg _ (congrArg _ (List.map_congr_left fun p _ => ?_))
  simp only [Function.comp, fz_sh]
  rfl
def insC (l : List Cell) (p : Cell) : List Cell := if p ∈ l then l else l ++ [p]
theorem cK_inj {p q : Cell} (h : cK p = cK q) : p = q := by
  obtain ⟨a, b⟩ := p
  obtain ⟨c, d⟩ := q
  injection h with h1 h2
  injection h2 with h2 _
  injection h1 with h1
  injection h2 with h2
  have h1 : a = c := h1
  have h2 : b = d := h2
  rw [h1, h2]
theorem asDK_cD (p : Cell) : asDK (cD p) = some (.inr (cK p)) := rfl
theorem put_dtC : ∀ (l : List Cell) (p : Cell), putG (l.map fun p => (cK p, OV.sh (.bool true))) (cK p) (.sh (.bool true)) = (insC l p).map fun p => (cK p, OV.sh (.bool true))
  | [], p => by simp [putG, insC]
  | q :: l, p => by
    rw [List.map_cons, putG]
    by_cases e : q = p
    · subst e
      simp [insC]
    · have ne : cK q ≠ cK p := fun h => e (cK_inj h)
      rw [if_neg ne, put_dtC l p]
      unfold insC
      by_cases m : p ∈ l
      · rw [if_pos m, if_pos (List.mem_cons_of_mem _ m)]; rfl
      · rw [if_neg m, if_neg (by simp [m]; exact fun h => e h.symm)]; rfl
theorem set_dtC {l : List Cell} {p : Cell} (h : l.length < sizeLine) : setR (dtC l) (.sh (cD p)) (.sh (.bool true)) = .ok (dtC (insC l p)) := by
  have e : setO (dtC l) (cD p) (.sh (.bool true)) = some (dtC (insC l p)) := by
    unfold setO dtC
    simp only [asDK_cD, List.length_map]
    rw [if_pos ⟨h, rfl⟩, put_dtC]
  unfold setR
  rw [fz_sh, e]
theorem find_dtD : ∀ (l : List Cell) (p : Cell), ((l.map fun p => (cD p, PyData.bool true)).find? fun z => decide (asDK z.1 = some (.inr (cK p)))) = if p ∈ l then some (cD p, .bool true) else none
  | [], _ => rfl
  | q :: l, p => by
    rw [List.map_cons, List.find?_cons]
    by_cases e : q = p
    · subst e
      simp [asDK_cD]
    · have ne : ¬ (asDK (cD q) = some (.inr (cK p))) := fun h => e (cK_inj (by rw [asDK_cD] at h; injection h with h; injection h))
      rw [decide_eq_false ne]
      simp only [find_dtD l p]
      by_cases m : p ∈ l
      · rw [if_pos m, if_pos (List.mem_cons_of_mem _ m)]
      · rw [if_neg m, if_neg (by simp [m]; exact fun h => e h.symm)]
theorem look_dtD (l : List Cell) (p : Cell) : dLook ((.none, .none) :: l.map fun p => (cD p, PyData.bool true)) (cD p) = if p ∈ l then some (.bool true) else none := by
  unfold dLook
  rw [asDK_cD]
  simp only [List.find?_cons]
  have e : decide (asDK PyData.none = some (Sum.inr (cK p))) = false := rfl
  rw [e]
  simp only [find_dtD]
  by_cases m : p ∈ l <;> simp [m]
theorem okK_dtD {l : List (PyData × PyData)} {p : Cell} : okK ((.none, .none) :: l) (cD p) = true := rfl
theorem in_dtD {neg : Bool} {l : List Cell} {p : Cell} : gIn neg (.sh (cD p)) (.sh (dtD l)) = some (.sh (.bool (neg ^^ decide (p ∈ l)))) := by
  unfold gIn dtD
  simp only [fz_sh, okK_dtD, if_true, look_dtD]
  by_cases m : p ∈ l <;> simp [m]
theorem inP_dtD {neg : Bool} {l : List Cell} {p : Cell} : gInP neg (cD p) (dtD l) = some (.bool (neg ^^ decide (p ∈ l))) := by
  unfold gInP dtD
  simp only [okK_dtD, if_true, look_dtD]
  by_cases m : p ∈ l <;> simp [m]
theorem insC_len (l : List Cell) (p : Cell) : (insC l p).length ≤ l.length + 1 := by
  unfold insC
  by_cases m : p ∈ l <;> simp [m]
theorem mem_insC {l : List Cell} {p q : Cell} : q ∈ insC l p ↔ q ∈ l ∨ q = p := by
  unfold insC
  by_cases m : p ∈ l
  · rw [if_pos m]
    exact ⟨.inl, fun h => h.elim id fun e => e ▸ m⟩
  · rw [if_neg m]; simp
theorem insC_nodup {l : List Cell} {p : Cell} (h : l.Nodup) : (insC l p).Nodup := by
  unfold insC
  by_cases m : p ∈ l
  · rw [if_pos m]; exact h
  · rw [if_neg m, List.nodup_append]
    exact ⟨h, by simp, fun a ha b hb e => m (by simp at hb; rw [← hb, ← e]; exact ha)⟩
def insAll (l m : List Cell) : List Cell := m.foldl insC l
theorem mem_insAll {q : Cell} : ∀ {m l : List Cell}, q ∈ insAll l m ↔ q ∈ l ∨ q ∈ m
  | [], l => by simp [insAll]
  | p :: m, l => by
    show q ∈ insAll (insC l p) m ↔ _
    rw [mem_insAll, mem_insC, List.mem_cons, or_assoc]
theorem insAll_len : ∀ {m l : List Cell}, (insAll l m).length ≤ l.length + m.length
  | [], l => Nat.le_refl _
  | p :: m, l => by
    have a := insAll_len (m := m) (l := insC l p)
    have b := insC_len l p
    show (insAll (insC l p) m).length ≤ _
    rw [List.length_cons]; omega
theorem insAll_nodup : ∀ {m l : List Cell}, l.Nodup → (insAll l m).Nodup
  | [], _, h => h
  | p :: m, l, h => insAll_nodup (m := m) (insC_nodup h)
theorem insAll_app {l m n : List Cell} : insAll l (m ++ n) = insAll (insAll l m) n := by unfold insAll; rw [List.foldl_append]
/-- a loop that puts cells into a dict -/
theorem forO_cells {σ β : Type} {f : PyData → σ → O σ} (e : β → PyData) (st : OV → σ) (g : β → List Cell) (B : Nat) : ∀ (xs : List β) (l : List Cell),
    (∀ x ∈ xs, ∀ a : List Cell, a.length + (g x).length ≤ B → f (e x) (st (dtC a)) = .next (st (dtC (insAll a (g x))))) → l.length + (xs.flatMap g).length ≤ B →
    forO (xs.map e) f (st (dtC l)) = .next (st (dtC (insAll l (xs.flatMap g))))
  | [], l, _, _ => rfl
  | x :: xs, l, h, hB => by
    rw [List.flatMap_cons, List.length_append] at hB
    rw [List.map_cons, forO_cons, h x List.mem_cons_self l (by omega), O.bind_next]
    have c := insAll_len (m := g x) (l := l)
    rw [forO_cells e st g B xs _ (fun y hy => h y (List.mem_cons_of_mem _ hy)) (by omega), List.flatMap_cons, insAll_app]
theorem forO_c1 {β : Type} {f : PyData → OV → O OV} (e : β → PyData) (g : β → List Cell) (B : Nat) (xs : List β) (l : List Cell) (hB : l.length + (xs.flatMap g).length ≤ B)
    (h : ∀ x ∈ xs, ∀ a : List Cell, a.length + (g x).length ≤ B → f (e x) (dtC a) = .next (dtC (insAll a (g x)))) : forO (xs.map e) f (dtC l) = .next (dtC (insAll l (xs.flatMap g))) :=
  forO_cells (σ := OV) e (fun o => o) g B xs l h hB
/-! ### halos -/
def Rule.steps : Rule → List Cell
  | .free => [(0, 0)]
  | .sides => [(0, 0), (0, 1), (1, 0), (0, -1), (-1, 0)]
  | .corners => [(0, 0), (0, 1), (1, 0), (0, -1), (-1, 0), (1, 1), (1, -1), (-1, 1), (-1, -1)]
def halo (u : Rule) (s : Ship) : List Cell := insAll [] (s.cells.flatMap fun p => u.steps.map fun z => (p.1 + z.1, p.2 + z.2))
theorem flat_map_one {α β : Type} (f : α → β) (xs : List α) : xs.flatMap (fun x => [f x]) = xs.map f := flat_one f xs
theorem ruleEq {neg : Bool} {u v : Rule} : gEq neg (.sh u.d) (.sh v.d) = some (.sh (.bool (neg ^^ decide (u = v)))) := by
  rw [gEq_str (rule_ok u) (rule_ok v)]
  cases u <;> cases v <;> rfl
theorem halo_q {u : Rule} {s : Ship} (hs : s.n ≤ 1000) : q__law_halo [u.d, s.d] = .ok (dtC (halo u s)) := by
  have c := law_cells_q hs
  have ln := len_cells s
  have main : ∀ v : OV, fz v = .list (u.steps.map cD) → forO (s.cells.map cD) (fun x s_1 => O.bind (O.of (unT 2 x)) fun t => q__law_halo_2 v t x s_1) (.dt []) = .next (dtC (halo u s)) := fun v hv => by
    have h9 : u.steps.length ≤ 9 := by cases u <;> decide
    refine forO_c1 cD (fun p => u.steps.map fun z => (p.1 + z.1, p.2 + z.2)) 9000 s.cells [] ?_ (fun p _ a ha => ?_)
    · have := flat_le (f := fun p : Cell => u.steps.map fun z => (p.1 + z.1, p.2 + z.2)) (m := 9) s.cells fun p _ => by rw [List.length_map]; exact h9
      rw [List.length_nil]; omega
    · rw [List.length_map] at ha
      have hp : unT 2 (cD p) = .ok [.int p.1, .int p.2] := rfl
      have hi : itR (.sh (.list (u.steps.map cD))) = .ok (u.steps.map cD) := itR_list
      unfold q__law_halo_2
      get_elem_tactic_trivial
      rw [forO_c1 cD (fun z => [(p.1 + z.1, p.2 + z.2)]) 9000]
      · rw [flat_one]; decreasing_trivial_pre_omega
      · rw [flat_one, List.length_map]; exact ha
      · intro z _ a ha
        have h2 := set_dtC (l := a) (p := (p.1 + z.1, p.2 + z.2)) (by rw [sizeLine_eq]; simp at ha; omega)
        have hz : unT 2 (cD z) = .ok [.int z.1, .int z.2] := rfl
        unfold q__law_halo_1
        unfold cD at h2
        get_elem_tactic_trivial
        rfl
  have n1 : gEq true (.sh (.str "free")) (.sh (.str "free")) = some (.sh (.bool false)) := ruleEq (u := .free) (v := .free)
  have n2 : gEq true (.sh (.str "sides")) (.sh (.str "free")) = some (.sh (.bool true)) := ruleEq (u := .sides) (v := .free)
  have n3 : gEq true (.sh (.str "corners")) (.sh (.str "free")) = some (.sh (.bool true)) := ruleEq (u := .corners) (v := .free)
  have c1 : gEq false (.sh (.str "free")) (.sh (.str "corners")) = some (.sh (.bool false)) := ruleEq (u := .free) (v := .corners)
  have c2 : gEq false (.sh (.str "sides")) (.sh (.str "corners")) = some (.sh (.bool false)) := ruleEq (u := .sides) (v := .corners)
  have c3 : gEq false (.sh (.str "corners")) (.sh (.str "corners")) = some (.sh (.bool true)) := ruleEq (u := .corners) (v := .corners)
  have mf := map_fz_shL (e := cD) (xs := s.cells)
  unfold q__law_halo q__law_halo_0
  cases u with
  | free =>
    simp only [Rule.d, Rule.s] at c ⊢
    get_elem_tactic_trivial
    rw [main _ (by rw [fz_lst]; rfl)]
    decreasing_trivial_pre_omega
  | sides =>
    simp only [Rule.d, Rule.s] at c ⊢
    get_elem_tactic_trivial
    rw [main _ (by rw [fz_lst]; rfl)]
    decreasing_trivial_pre_omega
  | corners =>
    simp only [Rule.d, Rule.s] at c ⊢
    get_elem_tactic_trivial
    rw [main _ (by rw [fz_lst]; rfl)]
    decreasing_trivial_pre_omega

theorem near_steps (u : Rule) (p q : Cell) : near u p q = true ↔ ∃ z ∈ u.steps, q = (p.1 + z.1, p.2 + z.2) := by
  obtain ⟨a, b⟩ := p
  obtain ⟨c, d⟩ := q
  have e : ∀ x y z w : Int, ((x, y) : Cell) = (z, w) ↔ x = z ∧ y = w := fun x y z w => by simp
  have ml : ∀ i j k : Int, max2 i j ≤ k ↔ i ≤ k ∧ j ≤ k := fun i j k => by
    unfold max2
    by_cases h : j > i
    · rw [if_pos h]; omega
    · rw [if_neg h]; omega
  have ha : ∀ x, (0 ≤ x ∧ ab x = x) ∨ (x < 0 ∧ ab x = -x) := fun x => by
    unfold ab
    by_cases h : x < 0
    · exact .inr ⟨h, if_pos h⟩
    · exact .inl ⟨by omega, if_neg h⟩
  unfold near
  rcases ha (a - c) with ⟨h1, e1⟩ | ⟨h1, e1⟩ <;> rcases ha (b - d) with ⟨h2, e2⟩ | ⟨h2, e2⟩ <;> cases u <;>
    simp only [Rule.steps, Rule.tog, Rule.eith, List.mem_cons, List.not_mem_nil, or_false, exists_eq_or_imp, exists_eq_left] <;> simp only [e, Bool.and_eq_true, decide_eq_true_eq, ml, e1, e2] <;> omega
theorem mem_halo {u : Rule} {s : Ship} {p : Cell} : p ∈ halo u s ↔ ∃ q ∈ s.cells, near u q p = true := by
  unfold halo
  rw [mem_insAll]
  simp only [List.not_mem_nil, false_or, List.mem_flatMap, List.mem_map, near_steps]
  constructor
  · rintro ⟨q, hq, z, hz, e⟩; exact ⟨q, hq, z, hz, e.symm⟩
  · rintro ⟨q, hq, z, hz, e⟩; exact ⟨q, hq, z, hz, e.symm⟩
theorem keepB_halo {u : Rule} {s t : Ship} : keepB u s t = true ↔ ∀ q ∈ t.cells, q ∉ halo u s := by
  unfold keepB
  simp only [List.all_eq_true, mem_halo, Bool.not_eq_true']
  constructor
  · rintro h q hq ⟨p, hp, e⟩
    rw [h p hp q hq] at e; cases e
  · intro h p hp q hq
    cases e : near u p q with
    | false => rfl
    | true => exact absurd ⟨p, hp, e⟩ (h q hq)
theorem ab_comm (a b : Int) : ab (a - b) = ab (b - a) := by
  unfold ab
  by_cases h1 : a - b < 0
  · rw [if_pos h1, if_neg (by omega)]; omega
  · rw [if_neg h1]
    by_cases h2 : b - a < 0
    · rw [if_pos h2]; omega
    · rw [if_neg h2]; omega
theorem near_comm {u : Rule} {p q : Cell} : near u p q = near u q p := by
  unfold near
  rw [ab_comm p.1, ab_comm p.2]
theorem keepB_comm {u : Rule} {s t : Ship} : keepB u s t = keepB u t s := by
  rw [Bool.eq_iff_iff]
  unfold keepB
  simp only [List.all_eq_true]
  exact ⟨fun h q hq p hp => by rw [near_comm]; exact h p hp q hq, fun h q hq p hp => by rw [near_comm]; exact h p hp q hq⟩
end Com
namespace Com
open PySem PySem.Spec L2 Ev
open PyProof.Rows hiding St
local macro_rules | `(tactic| decreasing_trivial_pre_omega) => `(tactic| simp only [↓R.bind_ok, ↓R.bind_exc, ↓R.bind_stk, ↓O.bind_next, ↓O.bind_ret, ↓O.bind_exc, ↓O.bind_stk, R.bind_ok, R.bind_exc, R.bind_stk, O.bind_next, O.bind_ret, O.bind_exc, O.bind_stk, O.of_ok, O.of_exc, O.of_stk, O.fin_next, O.fin_ret, O.fin_exc, ofOR_some, ofPR_some, toBR_b, andR_b, orR_b, chR_b, iR_i, noX_ok, szR_lit, Option.isSome_some, Option.isSome_none, mutR_app, mutR_some, ownR_lst, ownR_dk, ownR_dt, itR_tup, itR_list, itR_lst, unT_l2, unT_l3, unT_l4, unT_l5, unT_l6, unT_l7, unL_l2, unL_l3, unL_l4, unL_l5, unL_l6, unL_l7, nd0, nd1, nd2, nd3, nd4, nd5, nd6, par2R_ok, gAdd_int, gII_ok, gI_int, gOrd_int, gEq_int, fz_sh, fz_lst, gNot_b, g1, g1_one, gi_int_none, gi_int_bool, gi_int_int, gi_int_str, gi_int_list, gi_int_tuple, gi_bool_none, gi_bool_bool, gi_bool_int, gi_bool_str, gi_bool_list, gi_bool_tuple, gi_str_none, gi_str_bool, gi_str_int, gi_str_str, gi_str_list, gi_str_tuple, gi_list_none, gi_list_bool, gi_list_int, gi_list_str, gi_list_list, gi_list_tuple, gi_tuple_none, gi_tuple_bool, gi_tuple_int, gi_tuple_str, gi_tuple_list, gi_tuple_tuple, gMax_two, mApp_ok, ownT_lst, dLen_list, dLen_tup, gSub_list, gSub_tup, gSub_lst, atI_l0, atI_l1, atI_l2, atI_l3, atI_l4, atI_l5, atI_l6, Option.map_some, dInt_b, dInt_i, dAbs_i, List.map_cons, List.map_nil, List.cons_append, List.nil_append, if_true, if_false, Bool.false_eq_true, decide_true, decide_false, Bool.false_xor, Bool.true_xor, decide_eq_true_eq, List.length_cons, List.length_nil, nl0, nl1, nl2, nl3, nl4, nl5, nl6, nl7, nl8, nl9, nl10, nl11, nl12, nl13, nl14, nl15, nl16, nl17, nl18, nl19, nl20, Nat.reduceAdd, Nat.reduceSub, Nat.reduceMul, Int.reduceLT, Int.reduceEq, Int.reduceSub, Int.reduceAdd, Int.reduceNeg, Int.reduceLE, Int.reduceMul, Int.reduceToNat, sz_le, sz_lt, Nat.reduceLeDiff, Nat.reduceLT, Bool.not_true, Bool.not_false, Bool.true_and, Bool.and_true, Bool.false_and, Bool.and_false, Bool.true_or, Bool.or_true, Bool.false_or, Bool.or_false, rite_and, rite_or, rb_and, rb_or, Bool.decide_eq_true, Bool.decide_and, Bool.decide_or, gAdd_LL, gAdd_Ll, gAdd_lL, gAdd_lst, gAdd_TT, map_sh_fz, map_fz_shL, List.length_map, gEq_bool, eq_self, forO_nil, forO_cons, lcR_nil, rng1R_ok, rng2R_ok])
local macro_rules | `(tactic| get_elem_tactic_trivial) => `(tactic| simp only [↓R.bind_ok, ↓R.bind_exc, ↓R.bind_stk, ↓O.bind_next, ↓O.bind_ret, ↓O.bind_exc, ↓O.bind_stk, R.bind_ok, R.bind_exc, R.bind_stk, O.bind_next, O.bind_ret, O.bind_exc, O.bind_stk, O.of_ok, O.of_exc, O.of_stk, O.fin_next, O.fin_ret, O.fin_exc, ofOR_some, ofPR_some, toBR_b, andR_b, orR_b, chR_b, iR_i, noX_ok, szR_lit, Option.isSome_some, Option.isSome_none, mutR_app, mutR_some, ownR_lst, ownR_dk, ownR_dt, itR_tup, itR_list, itR_lst, unT_l2, unT_l3, unT_l4, unT_l5, unT_l6, unT_l7, unL_l2, unL_l3, unL_l4, unL_l5, unL_l6, unL_l7, nd0, nd1, nd2, nd3, nd4, nd5, nd6, par2R_ok, gAdd_int, gII_ok, gI_int, gOrd_int, gEq_int, fz_sh, fz_lst, gNot_b, g1, g1_one, gi_int_none, gi_int_bool, gi_int_int, gi_int_str, gi_int_list, gi_int_tuple, gi_bool_none, gi_bool_bool, gi_bool_int, gi_bool_str, gi_bool_list, gi_bool_tuple, gi_str_none, gi_str_bool, gi_str_int, gi_str_str, gi_str_list, gi_str_tuple, gi_list_none, gi_list_bool, gi_list_int, gi_list_str, gi_list_list, gi_list_tuple, gi_tuple_none, gi_tuple_bool, gi_tuple_int, gi_tuple_str, gi_tuple_list, gi_tuple_tuple, gMax_two, mApp_ok, ownT_lst, dLen_list, dLen_tup, gSub_list, gSub_tup, gSub_lst, atI_l0, atI_l1, atI_l2, atI_l3, atI_l4, atI_l5, atI_l6, Option.map_some, dInt_b, dInt_i, dAbs_i, List.map_cons, List.map_nil, List.cons_append, List.nil_append, if_true, if_false, Bool.false_eq_true, decide_true, decide_false, Bool.false_xor, Bool.true_xor, decide_eq_true_eq, List.length_cons, List.length_nil, nl0, nl1, nl2, nl3, nl4, nl5, nl6, nl7, nl8, nl9, nl10, nl11, nl12, nl13, nl14, nl15, nl16, nl17, nl18, nl19, nl20, Nat.reduceAdd, Nat.reduceSub, Nat.reduceMul, Int.reduceLT, Int.reduceEq, Int.reduceSub, Int.reduceAdd, Int.reduceNeg, Int.reduceLE, Int.reduceMul, Int.reduceToNat, sz_le, sz_lt, Nat.reduceLeDiff, Nat.reduceLT, Bool.not_true, Bool.not_false, Bool.true_and, Bool.and_true, Bool.false_and, Bool.and_false, Bool.true_or, Bool.or_true, Bool.false_or, Bool.or_false, rite_and, rite_or, rb_and, rb_or, Bool.decide_eq_true, Bool.decide_and, Bool.decide_or, gAdd_LL, gAdd_Ll, gAdd_lL, gAdd_lst, gAdd_TT, map_sh_fz, map_fz_shL, List.length_map, gEq_bool, eq_self, forO_nil, forO_cons, lcR_nil, rng1R_ok, rng2R_ok, *])
/-! ### equality of what is written by an encoding -/
/-- e writes different things differently; n: how deep -/
structure EqE {α : Type} (e : α → PyData) (n : Nat) : Prop where
  lay : ∀ x, (e x).canLay0 = true
  dep : ∀ x, (e x).depth ≤ n
  eqv : ∀ x y, PyData.eqv (e x) (e y) = true ↔ x = y
theorem canLayAll_of : ∀ {ds : List PyData}, (∀ d ∈ ds, d.canLay0 = true) → PyData.canLayAll0 ds = true
  | [], _ => by simp [PyData.canLayAll0]
  | d :: ds, h => by
    rw [PyData.canLayAll0, h d List.mem_cons_self, canLayAll_of fun x hx => h x (List.mem_cons_of_mem _ hx)]; rfl
theorem depthAll_of {m : Nat} : ∀ {ds : List PyData}, (∀ d ∈ ds, d.depth ≤ m) → PyData.depthAll ds ≤ m
  | [], _ => by simp [PyData.depthAll]
  | d :: ds, h => by
    have a := h d List.mem_cons_self
    have b := depthAll_of (ds := ds) fun x hx => h x (List.mem_cons_of_mem _ hx)
    rw [PyData.depthAll]
    omega
section
variable {α β : Type} {e : α → PyData} {f : β → PyData} {n m : Nat}
theorem EqE.all (h : EqE e n) : ∀ xs ys : List α, PyData.eqvAll (xs.map e) (ys.map e) = true ↔ xs = ys
  | [], [] => by simp [PyData.eqvAll]
  | [], _ :: _ => by simp [PyData.eqvAll]
  | _ :: _, [] => by simp [PyData.eqvAll]
  | x :: xs, y :: ys => by simp [PyData.eqvAll, h.eqv, h.all xs ys]
theorem EqE.list (h : EqE e n) : EqE (fun xs : List α => .list (xs.map e)) (n + 1) where
  lay xs := by rw [PyData.canLay0]; exact canLayAll_of fun d hd => by obtain ⟨x, _, rfl⟩ := List.mem_map.mp hd; exact h.lay x
  dep xs := by
    have := depthAll_of (m := n) (ds := xs.map e) fun d hd => by obtain ⟨x, _, rfl⟩ := List.mem_map.mp hd; exact h.dep x
    rw [PyData.depth]; omega
  eqv xs ys := by rw [PyData.eqv]; exact h.all xs ys
theorem EqE.tup (h : EqE e n) : EqE (fun xs : List α => .tuple (xs.map e)) (n + 1) where
  lay xs := by rw [PyData.canLay0]; exact canLayAll_of fun d hd => by obtain ⟨x, _, rfl⟩ := List.mem_map.mp hd; exact h.lay x
  dep xs := by
    have := depthAll_of (m := n) (ds := xs.map e) fun d hd => by obtain ⟨x, _, rfl⟩ := List.mem_map.mp hd; exact h.dep x
    rw [PyData.depth]; omega
  eqv xs ys := by rw [PyData.eqv]; exact h.all xs ys
theorem EqE.pair (h : EqE e n) (k : EqE f m) : EqE (fun p : α × β => .tuple [e p.1, f p.2]) (max n m + 1) where
  lay p := by simp [PyData.canLay0, PyData.canLayAll0, h.lay, k.lay]
  dep p := by
    have := h.dep p.1
    have := k.dep p.2
    simp only [PyData.depth, PyData.depthAll]; omega
  eqv p q := by
    obtain ⟨a, b⟩ := p
    obtain ⟨c, d⟩ := q
    simp [PyData.eqv, PyData.eqvAll, h.eqv, k.eqv]
theorem EqE.shaped (h : EqE e n) (hn : n ≤ 64) (x : α) : SeqAt.shaped (e x) = true := by
  unfold SeqAt.shaped
  rw [h.lay x, decide_eq_true (Nat.le_trans (h.dep x) hn)]; rfl
theorem EqE.eq [DecidableEq α] (h : EqE e n) (hn : n ≤ 64) {neg : Bool} {a b : OV} {x y : α} (ha : fz a = e x) (hb : fz b = e y) : gEq neg a b = some (.sh (.bool (neg ^^ decide (x = y)))) := by
  unfold gEq
  rw [ha, hb, h.shaped hn, h.shaped hn, if_pos ⟨rfl, rfl⟩]
  have : PyData.eqv (e x) (e y) = decide (x = y) := by rw [Bool.eq_iff_iff, h.eqv, decide_eq_true_eq]
  rw [this]
theorem EqE.eqL [DecidableEq α] (h : EqE e n) (hn : n ≤ 63) {neg : Bool} {xs ys : List α} : gEq neg (shL e xs) (shL e ys) = some (.sh (.bool (neg ^^ decide (xs = ys)))) := h.list.eq (by omega) fz_shL fz_shL
theorem EqE.eqN [DecidableEq α] (h : EqE e n) (hn : n ≤ 63) {neg : Bool} {xs : List α} : gEq neg (shL e xs) (.lst []) = some (.sh (.bool (neg ^^ xs.isEmpty))) := by
  have := h.eqL hn (neg := neg) (xs := xs) (ys := [])
  rw [show shL e ([] : List α) = .lst [] from rfl] at this
  rw [this]
  cases xs <;> rfl
theorem EqE.eqND [DecidableEq α] (h : EqE e n) (hn : n ≤ 63) {neg : Bool} {xs : List α} : gEq neg (.sh (.list (xs.map e))) (.lst []) = some (.sh (.bool (neg ^^ xs.isEmpty))) := by
  rw [h.list.eq (x := xs) (y := []) (by omega) fz_sh (by rw [fz_lst]; rfl)]
  cases xs <;> rfl
/-- in a list -/
theorem EqE.inL [DecidableEq α] (h : EqE e n) (hn : n ≤ 63) {neg : Bool} {x : α} {xs : List α} {a b : OV} (ha : fz a = e x) (hb : fz b = .list (xs.map e)) : Ev.gIn neg a b = some (.sh (.bool (neg ^^ decide (x ∈ xs)))) := by
  unfold Ev.gIn
  rw [ha, hb]
  simp only []
  rw [h.shaped (by omega), h.list.shaped (by omega) xs, if_pos ⟨rfl, rfl⟩]
  have : ((xs.map e).any fun z => PyData.eqv z (e x)) = decide (x ∈ xs) := by
    rw [Bool.eq_iff_iff, decide_eq_true_eq, List.any_map, List.any_eq_true]
    constructor
    · rintro ⟨y, hy, q⟩; rw [← (h.eqv y x).mp q]; exact hy
    · intro hx; exact ⟨x, hx, (h.eqv x x).mpr rfl⟩
  rw [this]
end
theorem EqE.int : EqE PyData.int 0 := ⟨fun _ => by simp [PyData.canLay0], fun _ => by simp [PyData.depth], fun x y => by rw [eqv_int, decide_eq_true_eq]⟩
theorem EqE.bool : EqE PyData.bool 0 := ⟨fun _ => by simp [PyData.canLay0], fun _ => by simp [PyData.depth], fun x y => by simp [PyData.eqv]⟩
theorem EqE.cell : EqE cD 1 := by
  have := EqE.pair EqE.int EqE.int
  exact this
theorem EqE.ship : EqE Ship.d 1 where
  lay s := by simp [Ship.d, PyData.canLay0, PyData.canLayAll0, str_ok]
  dep s := by simp [Ship.d, PyData.depth, PyData.depthAll]
  eqv s t := by
    obtain ⟨a, b, c, d⟩ := s
    obtain ⟨a', b', c', d'⟩ := t
    have w : (wayS c == wayS c') = true ↔ c = c' := by cases c <;> cases c' <;> decide +kernel
    simp only [Ship.d, PyData.eqv, PyData.eqvAll, Bool.and_eq_true, beq_iff_eq, Bool.and_true, Ship.mk.injEq]
    rw [← beq_iff_eq (a := wayS c), w]
    constructor
    · rintro ⟨h1, h2, h3, h4⟩; exact ⟨h1, h2, h3, by omega⟩
    · rintro ⟨h1, h2, h3, h4⟩; exact ⟨h1, h2, h3, by omega⟩
/-! ### order -/
def Ship.lt (s t : Ship) : Bool := decide (s.r < t.r) || (decide (s.r = t.r) && (decide (s.c < t.c) || (decide (s.c = t.c) && ((s.al && !t.al) || (decide (s.al = t.al) && decide (s.n < t.n))))))
theorem way_lt (a b : Bool) : PySem.W.dataLt (.str (wayS a)) (.str (wayS b)) = (a && !b) := by
  rw [PySem.W.dataLt_str]
  cases a <;> cases b <;> decide +kernel
theorem ship_lt (s t : Ship) : PySem.W.dataLt s.d t.d = s.lt t := by
  obtain ⟨a, b, c, d⟩ := s
  obtain ⟨a', b', c', d'⟩ := t
  have w : PyData.eqv (.str (wayS c)) (.str (wayS c')) = decide (c = c') := by rw [eqv_str]; cases c <;> cases c' <;> decide +kernel
  unfold Ship.d Ship.lt
  rw [PySem.W.dataLt_tuple, PySem.W.dataLt_cons (by rfl), PySem.W.dataLt_cons (by rfl), PySem.W.dataLt_cons (by rfl), PySem.W.dataLt_cons (by rfl), PySem.W.dataLt_int, PySem.W.dataLt_int, PySem.W.dataLt_int, way_lt, eqv_int, eqv_int, eqv_int, w]
  have e : PyProof.Rows.lexLt PyProof.Rows.itemOrd (PySem.W.keyToksAll []) (PySem.W.keyToksAll []) = false := by decide +kernel
  rw [e]
  by_cases h1 : a = a'
  · subst h1
    by_cases h2 : b = b'
    · subst h2
      by_cases h3 : c = c'
      · subst h3
        by_cases h4 : (d : Int) = d'
        · have : d = d' := by omega
          subst this
          simp
        · have h5 : ((d : Int) < d') ↔ d < d' := by omega
          simp [h4, h5]
      · simp [h3]
    · simp [h2]
  · simp [h1]
theorem cell_lt (p q : Cell) : PySem.W.dataLt (cD p) (cD q) = decide (p.1 < q.1 ∨ (p.1 = q.1 ∧ p.2 < q.2)) := PySem.W.dataLt_ii _ _ _ _
theorem leD_eq (d e : PyData) : leD d e = !PySem.W.dataLt e d := rfl
/-- sorting what is sorted -/
theorem sort_id {α : Type} {e : α → PyData} {xs : List α} (h : xs.Pairwise fun x y => PySem.W.dataLt (e y) (e x) = false) : (xs.map e).mergeSort leD = xs.map e := by
  apply List.mergeSort_of_pairwise
  rw [List.pairwise_map]
  exact h.imp fun {x y} q => by rw [leD_eq, q]; rfl

section
variable {α : Type} {e : α → PyData} {n : Nat}
theorem EqE.eqP [DecidableEq α] (h : EqE e n) (hn : n ≤ 64) {neg : Bool} {x y : α} : gEqP neg (e x) (e y) = some (.bool (neg ^^ decide (x = y))) := by
  unfold gEqP
  rw [h.shaped hn, h.shaped hn, if_pos ⟨rfl, rfl⟩]
  have : PyData.eqv (e x) (e y) = decide (x = y) := by rw [Bool.eq_iff_iff, h.eqv, decide_eq_true_eq]
  rw [this]
theorem EqE.eqPL [DecidableEq α] (h : EqE e n) (hn : n ≤ 63) {neg : Bool} {xs ys : List α} : gEqP neg (.list (xs.map e)) (.list (ys.map e)) = some (.bool (neg ^^ decide (xs = ys))) := h.list.eqP (by omega)
theorem gIsiP_ok {T : String} {d : PyData} (h : isDict d = false) : gIsiP T d = some (.bool (isiB T d)) := by
  unfold gIsiP
  simp only [h, Bool.false_eq_true, if_false]
theorem sort_ok (h : EqE e n) (hn : n ≤ 60) {xs : List α} (al : ∀ x ∈ xs, ∀ y ∈ xs, PySem.W.alike (e x) (e y) = true) (tb : (∀ x, tupB (e x) = true) ∨ ∀ x, offB (e x) = true) (hl : xs.length ≤ sizeLine) : sortOk (xs.map e) = true := by
  unfold sortOk
  simp only [Bool.and_eq_true, decide_eq_true_eq, List.length_map, List.all_map, List.all_eq_true, Function.comp, Bool.or_eq_true]
  refine ⟨⟨⟨fun x hx y hy => al x hx y hy, ?_⟩, fun x _ => ⟨h.shaped (by omega) x, Nat.le_trans (h.dep x) hn⟩⟩, hl⟩
  rcases tb with tb | tb
  · exact .inl fun x _ => tb x
  · exact .inr fun x _ => tb x
theorem sort_q (h : EqE e n) (hn : n ≤ 60) {xs : List α} (al : ∀ x ∈ xs, ∀ y ∈ xs, PySem.W.alike (e x) (e y) = true) (tb : (∀ x, tupB (e x) = true) ∨ ∀ x, offB (e x) = true) (hl : xs.length ≤ sizeLine)
    (hp : xs.Pairwise fun x y => PySem.W.dataLt (e y) (e x) = false) : dSorted (.list (xs.map e)) = some (shL e xs) := by
  unfold dSorted
  simp only
  unfold sortD
  rw [if_pos (sort_ok h hn al tb hl), sort_id hp, List.map_map]; rfl
end
theorem ship_alike (s t : Ship) : PySem.W.alike s.d t.d = true := rfl
theorem cell_alike (s t : Cell) : PySem.W.alike (cD s) (cD t) = true := rfl
theorem mem_shipsAt {R C l r c : Nat} {s : Ship} (h : s ∈ shipsAt R C l r c) : s.r = r ∧ s.c = c ∧ s.n = l := by
  unfold shipsAt at h
  rcases List.mem_append.mp h with h | h
  · by_cases a : c + l ≤ C
    · rw [if_pos a] at h; rw [List.mem_singleton.mp h]; exact ⟨rfl, rfl, rfl⟩
    · rw [if_neg a] at h; cases h
  · by_cases a : r + l ≤ R ∧ 1 < l
    · rw [if_pos a] at h; rw [List.mem_singleton.mp h]; exact ⟨rfl, rfl, rfl⟩
    · rw [if_neg a] at h; cases h
theorem mem_shipsN {R C l : Nat} {s : Ship} (h : s ∈ ships R C l) : s.n = l := by
  unfold ships at h
  simp only [List.mem_flatMap] at h
  obtain ⟨r, _, c, _, h⟩ := h
  exact (mem_shipsAt h).2.2
theorem pair_range (n : Nat) : (List.range n).Pairwise fun a b => a < b := List.pairwise_lt_range
theorem ships_lt (R C l : Nat) : (ships R C l).Pairwise fun s t => s.lt t = true := by
  unfold ships
  rw [List.pairwise_flatMap]
  refine ⟨fun r _ => ?_, (pair_range R).imp fun {a b} h x hx y hy => ?_⟩
  · rw [List.pairwise_flatMap]
    refine ⟨fun c _ => ?_, (pair_range C).imp fun {a b} h x hx y hy => ?_⟩
    · unfold shipsAt
      by_cases a : c + l ≤ C <;> by_cases b : r + l ≤ R ∧ 1 < l <;> simp [a, b, Ship.lt]
    · obtain ⟨h1, h2, h3⟩ := mem_shipsAt hx
      obtain ⟨g1, g2, g3⟩ := mem_shipsAt hy
      unfold Ship.lt
      rw [h1, h2, g1, g2]
      have : ((a : Nat) : Int) < (b : Nat) := by omega
      simp [this]
  · simp only [List.mem_flatMap] at hx hy
    obtain ⟨c, _, hx⟩ := hx
    obtain ⟨d, _, hy⟩ := hy
    have h1 := (mem_shipsAt hx).1
    have g1 := (mem_shipsAt hy).1
    unfold Ship.lt
    rw [h1, g1]
    have : ((a : Nat) : Int) < (b : Nat) := by omega
    simp [this]
theorem lt_asymm {s t : Ship} (h : s.lt t = true) : t.lt s = false := by
  obtain ⟨a, b, c, d⟩ := s
  obtain ⟨a', b', c', d'⟩ := t
  unfold Ship.lt at h ⊢
  cases c <;> cases c' <;> simp at h ⊢ <;> omega
theorem ships_sorted {R C l : Nat} (hb : R * (C * 2) ≤ 100000) : dSorted (.list ((ships R C l).map Ship.d)) = some (shL Ship.d (ships R C l)) :=
  sort_q EqE.ship (by decide) (fun x _ y _ => ship_alike x y) (.inl fun _ => rfl) (Nat.le_trans ships_len (by rw [sizeLine_eq]; omega)) ((ships_lt R C l).imp fun {x y} h => by rw [ship_lt]; exact lt_asymm h)
theorem cells_sorted {s : Ship} (hn : s.n ≤ 1000) : dSorted (.list (s.cells.map cD)) = some (shL cD s.cells) :=
  sort_q EqE.cell (by decide) (fun x _ y _ => cell_alike x y) (.inl fun _ => rfl) (by rw [len_cells, sizeLine_eq]; omega) (by
    unfold Ship.cells
    rw [List.pairwise_map]
    refine (pair_range s.n).imp fun {a b} h => ?_
    rw [cell_lt]
    cases s.al <;> simp <;> omega)
end Com
namespace Com
open PySem PySem.Spec L2 Ev
open PyProof.Rows hiding St
local macro_rules | `(tactic| decreasing_trivial_pre_omega) => `(tactic| simp only [↓R.bind_ok, ↓R.bind_exc, ↓R.bind_stk, ↓O.bind_next, ↓O.bind_ret, ↓O.bind_exc, ↓O.bind_stk, R.bind_ok, R.bind_exc, R.bind_stk, O.bind_next, O.bind_ret, O.bind_exc, O.bind_stk, O.of_ok, O.of_exc, O.of_stk, O.fin_next, O.fin_ret, O.fin_exc, ofOR_some, ofPR_some, toBR_b, andR_b, orR_b, chR_b, iR_i, noX_ok, szR_lit, Option.isSome_some, Option.isSome_none, mutR_app, mutR_some, ownR_lst, ownR_dk, ownR_dt, itR_tup, itR_list, itR_lst, unT_l2, unT_l3, unT_l4, unT_l5, unT_l6, unT_l7, unL_l2, unL_l3, unL_l4, unL_l5, unL_l6, unL_l7, nd0, nd1, nd2, nd3, nd4, nd5, nd6, par2R_ok, gAdd_int, gII_ok, gI_int, gOrd_int, gEq_int, fz_sh, fz_lst, gNot_b, g1, g1_one, gi_int_none, gi_int_bool, gi_int_int, gi_int_str, gi_int_list, gi_int_tuple, gi_bool_none, gi_bool_bool, gi_bool_int, gi_bool_str, gi_bool_list, gi_bool_tuple, gi_str_none, gi_str_bool, gi_str_int, gi_str_str, gi_str_list, gi_str_tuple, gi_list_none, gi_list_bool, gi_list_int, gi_list_str, gi_list_list, gi_list_tuple, gi_tuple_none, gi_tuple_bool, gi_tuple_int, gi_tuple_str, gi_tuple_list, gi_tuple_tuple, gMax_two, mApp_ok, ownT_lst, dLen_list, dLen_tup, gSub_list, gSub_tup, gSub_lst, atI_l0, atI_l1, atI_l2, atI_l3, atI_l4, atI_l5, atI_l6, Option.map_some, dInt_b, dInt_i, dAbs_i, List.map_cons, List.map_nil, List.cons_append, List.nil_append, if_true, if_false, Bool.false_eq_true, decide_true, decide_false, Bool.false_xor, Bool.true_xor, decide_eq_true_eq, List.length_cons, List.length_nil, nl0, nl1, nl2, nl3, nl4, nl5, nl6, nl7, nl8, nl9, nl10, nl11, nl12, nl13, nl14, nl15, nl16, nl17, nl18, nl19, nl20, Nat.reduceAdd, Nat.reduceSub, Nat.reduceMul, Int.reduceLT, Int.reduceEq, Int.reduceSub, Int.reduceAdd, Int.reduceNeg, Int.reduceLE, Int.reduceMul, Int.reduceToNat, sz_le, sz_lt, Nat.reduceLeDiff, Nat.reduceLT, Bool.not_true, Bool.not_false, Bool.true_and, Bool.and_true, Bool.false_and, Bool.and_false, Bool.true_or, Bool.or_true, Bool.false_or, Bool.or_false, rite_and, rite_or, rb_and, rb_or, Bool.decide_eq_true, Bool.decide_and, Bool.decide_or, gAdd_LL, gAdd_Ll, gAdd_lL, gAdd_lst, gAdd_TT, map_sh_fz, map_fz_shL, List.length_map, gEq_bool, eq_self, forO_nil, forO_cons, lcR_nil, rng1R_ok, rng2R_ok])
local macro_rules | `(tactic| get_elem_tactic_trivial) => `(tactic| simp only [↓R.bind_ok, ↓R.bind_exc, ↓R.bind_stk, ↓O.bind_next, ↓O.bind_ret, ↓O.bind_exc, ↓O.bind_stk, R.bind_ok, R.bind_exc, R.bind_stk, O.bind_next, O.bind_ret, O.bind_exc, O.bind_stk, O.of_ok, O.of_exc, O.of_stk, O.fin_next, O.fin_ret, O.fin_exc, ofOR_some, ofPR_some, toBR_b, andR_b, orR_b, chR_b, iR_i, noX_ok, szR_lit, Option.isSome_some, Option.isSome_none, mutR_app, mutR_some, ownR_lst, ownR_dk, ownR_dt, itR_tup, itR_list, itR_lst, unT_l2, unT_l3, unT_l4, unT_l5, unT_l6, unT_l7, unL_l2, unL_l3, unL_l4, unL_l5, unL_l6, unL_l7, nd0, nd1, nd2, nd3, nd4, nd5, nd6, par2R_ok, gAdd_int, gII_ok, gI_int, gOrd_int, gEq_int, fz_sh, fz_lst, gNot_b, g1, g1_one, gi_int_none, gi_int_bool, gi_int_int, gi_int_str, gi_int_list, gi_int_tuple, gi_bool_none, gi_bool_bool, gi_bool_int, gi_bool_str, gi_bool_list, gi_bool_tuple, gi_str_none, gi_str_bool, gi_str_int, gi_str_str, gi_str_list, gi_str_tuple, gi_list_none, gi_list_bool, gi_list_int, gi_list_str, gi_list_list, gi_list_tuple, gi_tuple_none, gi_tuple_bool, gi_tuple_int, gi_tuple_str, gi_tuple_list, gi_tuple_tuple, gMax_two, mApp_ok, ownT_lst, dLen_list, dLen_tup, gSub_list, gSub_tup, gSub_lst, atI_l0, atI_l1, atI_l2, atI_l3, atI_l4, atI_l5, atI_l6, Option.map_some, dInt_b, dInt_i, dAbs_i, List.map_cons, List.map_nil, List.cons_append, List.nil_append, if_true, if_false, Bool.false_eq_true, decide_true, decide_false, Bool.false_xor, Bool.true_xor, decide_eq_true_eq, List.length_cons, List.length_nil, nl0, nl1, nl2, nl3, nl4, nl5, nl6, nl7, nl8, nl9, nl10, nl11, nl12, nl13, nl14, nl15, nl16, nl17, nl18, nl19, nl20, Nat.reduceAdd, Nat.reduceSub, Nat.reduceMul, Int.reduceLT, Int.reduceEq, Int.reduceSub, Int.reduceAdd, Int.reduceNeg, Int.reduceLE, Int.reduceMul, Int.reduceToNat, sz_le, sz_lt, Nat.reduceLeDiff, Nat.reduceLT, Bool.not_true, Bool.not_false, Bool.true_and, Bool.and_true, Bool.false_and, Bool.and_false, Bool.true_or, Bool.or_true, Bool.false_or, Bool.or_false, rite_and, rite_or, rb_and, rb_or, Bool.decide_eq_true, Bool.decide_and, Bool.decide_or, gAdd_LL, gAdd_Ll, gAdd_lL, gAdd_lst, gAdd_TT, map_sh_fz, map_fz_shL, List.length_map, gEq_bool, eq_self, forO_nil, forO_cons, lcR_nil, rng1R_ok, rng2R_ok, *])
/-! ### what every law draws -/
set_option exponentiation.threshold 2000 in
theorem stir_q {cell k : Int} (h0 : 0 ≤ k) (h1 : k < 2 ^ 20) : q__law_stir [.int cell, .int k] = .ok (.sh (.int (stir cell k))) := by
  have p10 : powOk 10 60 = true := by decide +kernel
  have b0 : 0 ≤ stirN cell k ∧ stirN cell k < 170141183460469231731687303715884105727 := by unfold stirN; omega
  have c0 : 0 ≤ cell % 10 ^ 60 ∧ cell % 10 ^ 60 < 10 ^ 60 := by omega
  have m1 : mulOk (cell % 10 ^ 60 + 7919 * k + 1) 27182818284590452353602874713527 = true := mulOk_n (n := 210) (m := 110) (by omega) (by decide) (by decide) (by decide) (by decide)
  have p5 : powOk (stirN cell k) 5 = true := powOk_n (n := 127) (k := 5) (by omega) (by decide)
  have p3 : powOk ((stirN cell k) ^ 5 + 48271 * k) 3 = true := powOk_n (n := 700) (k := 3) (by
    obtain ⟨n, hn⟩ := Int.eq_ofNat_of_zero_le b0.1
    obtain ⟨j, hj⟩ := Int.eq_ofNat_of_zero_le h0
    rw [hn, hj]
    have e : ((n : Int) ^ 5 + 48271 * (j : Int)) = ((n ^ 5 + 48271 * j : Nat) : Int) := by
      simp
    rw [e, Int.natAbs_natCast]
    have hn2 : n ≤ 2 ^ 127 := by omega
    have h5 : n ^ 5 ≤ (2 ^ 127) ^ 5 := Nat.pow_le_pow_left hn2 5
    have hj2 : j < 2 ^ 20 := by omega
    have e2 : (2 ^ 127) ^ 5 = 2 ^ 635 := by rw [← Nat.pow_mul]
    rw [e2] at h5
    omega) (by decide)
  have d7 : divOk (((stirN cell k) ^ 5 + 48271 * k) ^ 3 % 162259276829213363391578010288127) 7 = true := (by decide +kernel : divOk 0 7 = true)
  have t1 : (60 : Int).toNat = 60 := rfl
  have t2 : (5 : Int).toNat = 5 := rfl
  have t3 : (3 : Int).toNat = 3 := rfl
  have k1 : mulOk 7919 k = true := mulOk_l (by decide)
  have k2 : mulOk 48271 k = true := mulOk_l (by decide)
  have z60 : (0 : Int) < 10 ^ 60 := by decide
  unfold q__law_stir q__law_stir_0
  unfold stirN at p5 p3 d7
  get_elem_tactic_trivial
  rfl
theorem stir_lo (cell k : Int) : 0 ≤ stir cell k := by
  unfold stir
  exact Int.ediv_nonneg (Int.emod_nonneg _ (by decide)) (by decide)
theorem drawn_q (cell : Int) (sizes : List Int) (hs : ∀ s ∈ sizes, 0 < s ∧ s < 2 ^ 62) (hl : sizes.length ≤ 63) : ∃ xs : List Int, q__law_drawn [.int cell, .list (sizes.map .int)] = .ok (shL .int xs) ∧ Drawn xs sizes := by
  have p18 : powOk 10 18 = true := by decide +kernel
  have t18 : (18 : Int).toNat = 18 := rfl
  obtain ⟨s', h1, rest, xs, h2, h3, h4⟩ := forO_inv (f := fun x s => q__law_drawn_1 (.int cell) (.list (sizes.map .int)) x s)
    (fun i s => ∃ (rest : Int) (xs : List Int), s = (shL PyData.int xs, .int rest) ∧ xs.length = i ∧ ∀ (k : Nat) (x s : Int), xs[k]? = some x → sizes[k]? = some s → 0 ≤ x ∧ x < s)
    ((List.range sizes.length).map fun z => .int ((z : Nat) : Int)) 0 (shL PyData.int [], .int cell) ⟨cell, [], rfl, rfl, by simp⟩ (fun k d s hk hp => by
      obtain ⟨rest, xs, rfl, hx, hb⟩ := hp
      rw [List.getElem?_map] at hk
      obtain ⟨m, hm, rfl⟩ := Option.map_eq_some_iff.mp hk
      have hk1 := (List.getElem?_eq_some_iff.mp hm).1
      rw [List.length_range] at hk1
      have : m = k := by
        have := (List.getElem?_eq_some_iff.mp hm).2
        simpa using this.symm
      subst this
      have hx' : xs.length = m := by omega
      have g0 : sizes[m]? = some sizes[m] := List.getElem?_eq_getElem hk1
      have hsk := hs sizes[m] (List.getElem_mem hk1)
      have at1 : atI (sizes.map PyData.int) (m : Nat) = some (.int sizes[m]) := atI_nat (by rw [List.getElem?_map, g0]; rfl)
      have ap : ∀ y : Int, mutR mApp (shL PyData.int xs) [.sh (.int y)] = .ok (shL PyData.int (xs ++ [y]), .sh .none) := fun y => mutR_some (app_shL (en := PyData.int) (by rw [sizeLine_eq]; omega))
      have st := stir_q (cell := cell) (k := (m : Nat)) (by omega) (by omega)
      have key : ∀ y : Int, 0 ≤ y → y < sizes[m] → ∀ (j : Nat) (x s : Int), (xs ++ [y])[j]? = some x → sizes[j]? = some s → 0 ≤ x ∧ x < s := fun y y0 y1 j x s h1 h2 => by
        by_cases e : j < xs.length
        · rw [List.getElem?_append_left e] at h1
          exact hb j x s h1 h2
        · rw [List.getElem?_append_right (by omega)] at h1
          have : j = xs.length := by
            have := (List.getElem?_eq_some_iff.mp h1).1
            simp at this
            omega
          subst this
          simp at h1
          subst h1
          rw [hx', g0] at h2
          cases h2
          exact ⟨y0, y1⟩
      have q0 : 0 < sizes[m] := hsk.1
      by_cases h18 : cell < 10 ^ 18
      · refine ⟨_, ?_, rest, xs ++ [stir cell (m : Nat) % sizes[m]], rfl, by simp; omega, key _ (Int.emod_nonneg _ (by omega)) (Int.emod_lt_of_pos _ hsk.1)⟩
        unfold q__law_drawn_1
        get_elem_tactic_trivial
      · by_cases hr : rest = 0
        · refine ⟨_, ?_, rest, xs ++ [stir cell (m : Nat) % sizes[m]], rfl, by simp; omega, key _ (Int.emod_nonneg _ (by omega)) (Int.emod_lt_of_pos _ hsk.1)⟩
          unfold q__law_drawn_1
          get_elem_tactic_trivial
        · have dv : divOk rest sizes[m] = true := divOk_n (n := 62) hsk.1 (by omega) (by decide) (by decide)
          refine ⟨_, ?_, rest / sizes[m], xs ++ [rest % sizes[m]], rfl, by simp; omega, key _ (Int.emod_nonneg _ (by omega)) (Int.emod_lt_of_pos _ hsk.1)⟩
          unfold q__law_drawn_1
          get_elem_tactic_trivial)
  rw [List.length_map, List.length_range, Nat.zero_add] at h3
  refine ⟨xs, ?_, h3, h4⟩
  unfold q__law_drawn q__law_drawn_0
  decreasing_trivial_pre_omega
  rw [rng1R_n (by omega)]
  decreasing_trivial_pre_omega
  rw [show ((OV.lst [], PyData.int cell) : OV × PyData) = (shL PyData.int [], .int cell) from rfl, h1, h2]
  decreasing_trivial_pre_omega
/-- a drawn list, number by number -/
theorem Drawn.at {xs sizes : List Int} (h : Drawn xs sizes) {k : Nat} {s : Int} (hk : sizes[k]? = some s) : ∃ x, xs[k]? = some x ∧ 0 ≤ x ∧ x < s := by
  have hl := (List.getElem?_eq_some_iff.mp hk).1
  have : k < xs.length := by rw [h.1]; exact hl
  exact ⟨_, List.getElem?_eq_getElem this, h.2 k _ s (List.getElem?_eq_getElem this) hk⟩
/-- [0] + script[:n] -/
theorem script_it (ns : List Int) (n : Int) (h : ns.length ≤ 63) : ∃ ms : List Int, (ofOR (gSl (.sh (.list (ns.map .int))) none (some n))) = .ok (shL PyData.int ms) ∧ gAdd (.lst [.sh (.int 0)]) (shL PyData.int ms) = some (.lst (.sh (.int 0) :: ms.map fun x => .sh (.int x))) ∧ ms.length ≤ 63 := by
  have hl := Nat.le_trans (cutD_len ns none (some n)) h
  refine ⟨cutD ns none (some n), ?_, ?_, hl⟩
  · unfold gSl
    simp only [fz_sh, cutD_map, ofOR_some]
    rw [shL, List.map_map]; rfl
  · rw [gAdd_lst (by simp only [List.length_map, List.length_cons, List.length_nil, sizeLine_eq]; omega)]
    simp [fz_sh]
/-- a law that looks at each cell -/
theorem each_turn {f : PyData → Unit → O Unit} (h : ∀ c : Int, f (.int c) () = .next ()) (ms : List Int) : forO (ms.map PyData.int) f () = .next () :=
  forO_same fun d hd => by
    obtain ⟨c, _, rfl⟩ := List.mem_map.mp hd
    exact h c
theorem true_of {m : List PyData → Rv} {q : List PyData → R OV} (hp : jP m q) {ds : List PyData} {o : OV} (h : q ds = .ok o) : m ds = .ok o := by
  have := hp ds
  rw [h] at this
  exact this

/-! ### things of any kind -/
/-- what can be laid out, n deep -/
def Gd (n : Nat) (d : PyData) : Prop := d.canLay0 = true ∧ d.depth ≤ n
theorem Gd.le {n m : Nat} {d : PyData} (h : Gd n d) (l : n ≤ m) : Gd m d := ⟨h.1, Nat.le_trans h.2 l⟩
theorem Gd.shaped {n : Nat} {d : PyData} (h : Gd n d) (l : n ≤ 64) : SeqAt.shaped d = true := by
  unfold SeqAt.shaped
  rw [h.1, decide_eq_true (Nat.le_trans h.2 l)]; rfl
theorem Gd.int (i : Int) : Gd 0 (.int i) := ⟨by simp [PyData.canLay0], by simp [PyData.depth]⟩
theorem Gd.bool (b : Bool) : Gd 0 (.bool b) := ⟨by simp [PyData.canLay0], by simp [PyData.depth]⟩
theorem Gd.none : Gd 0 .none := ⟨by simp [PyData.canLay0], by simp [PyData.depth]⟩
theorem Gd.str {x : Str} (h : PyData.strOk x = true) : Gd 0 (.str x) := ⟨by rw [PyData.canLay0]; exact h, by simp [PyData.depth]⟩
theorem Gd.list {n : Nat} {ds : List PyData} (h : ∀ d ∈ ds, Gd n d) : Gd (n + 1) (.list ds) :=
  ⟨by rw [PyData.canLay0]; exact canLayAll_of fun d hd => (h d hd).1, by
    have := depthAll_of (m := n) fun d hd => (h d hd).2
    rw [PyData.depth]; omega⟩
theorem Gd.tup {n : Nat} {ds : List PyData} (h : ∀ d ∈ ds, Gd n d) : Gd (n + 1) (.tuple ds) :=
  ⟨by rw [PyData.canLay0]; exact canLayAll_of fun d hd => (h d hd).1, by
    have := depthAll_of (m := n) fun d hd => (h d hd).2
    rw [PyData.depth]; omega⟩
theorem Gd.noD {n : Nat} {d : PyData} (h : Gd n d) : isDict d = false := by
  cases d with
  | dict _ => have := h.1; simp [PyData.canLay0] at this
  | _ => rfl
theorem canLayAll_mem : ∀ {ds : List PyData}, PyData.canLayAll0 ds = true → ∀ d ∈ ds, d.canLay0 = true
  | x :: xs, h, d, hd => by
    rw [PyData.canLayAll0, Bool.and_eq_true] at h
    rcases List.mem_cons.mp hd with rfl | hd
    · exact h.1
    · exact canLayAll_mem h.2 d hd
theorem noD_of {d : PyData} (h : d.canLay0 = true) : isDict d = false := by
  cases d with
  | dict _ => simp [PyData.canLay0] at h
  | _ => rfl
theorem shaped_lay {d : PyData} (h : SeqAt.shaped d = true) : d.canLay0 = true := by
  unfold SeqAt.shaped at h
  rw [Bool.and_eq_true] at h
  exact h.1
theorem tup_noD {xs : List PyData} (h : SeqAt.shaped (.tuple xs) = true) : ∀ x ∈ xs, isDict x = false := fun x hx => by
  have := shaped_lay h
  rw [PyData.canLay0] at this
  exact noD_of (canLayAll_mem this x hx)
/-! ### a ship among things of any kind -/
theorem is_ship4 {R C : Int} {a b w l : PyData} (ha : isDict a = false) (hb : isDict b = false) (hw : isDict w = false) (hl : isDict l = false) : q_is_ship [cD (R, C), .tuple [a, b, w, l]] = .ok (.sh (.bool (shipB R C (.tuple [a, b, w, l])))) := by
  have wa := whole_q ha
  have wb := whole_q hb
  have sl := side_q hl
  have hD : ∀ (r c : Int) (n : Nat) (al : Bool), Ship.d ⟨r, c, al, n⟩ = .tuple [.int r, .int c, .str (wayS al), .int n] := fun _ _ _ _ => rfl
  cases w with
  | dict _ => cases hw
  | str w =>
    have iw := in_ways (w := w)
    cases q : (decide (w = ("along" : Str)) || decide (w = ("down" : Str))) with
    | false => unfold q_is_ship q_is_ship_0 shipB; rw [q] at iw; get_elem_tactic_trivial
    | true =>
      cases qa : wholeB a with
      | false => unfold q_is_ship q_is_ship_0 shipB; rw [q] at iw; rw [qa] at wa; get_elem_tactic_trivial
      | true =>
        cases qb : wholeB b with
        | false => unfold q_is_ship q_is_ship_0 shipB; rw [q] at iw; rw [qa] at wa; rw [qb] at wb; get_elem_tactic_trivial
        | true =>
          cases ql : sideB l with
          | false => unfold q_is_ship q_is_ship_0 shipB; rw [q] at iw; rw [qa] at wa; rw [qb] at wb; rw [ql] at sl; get_elem_tactic_trivial
          | true =>
            obtain ⟨r, rfl⟩ := whole_int qa
            obtain ⟨c, rfl⟩ := whole_int qb
            obtain ⟨n, rfl, n1, n8⟩ := side_int ql
            obtain ⟨k, rfl⟩ := Int.eq_ofNat_of_zero_le (show 0 ≤ n by omega)
            have ew : ∃ al, w = wayS al := by
              by_cases e : w = ("along" : Str)
              · exact ⟨true, e⟩
              · refine ⟨false, ?_⟩
                rw [decide_eq_false e, Bool.false_or, decide_eq_true_eq] at q
                exact q
            obtain ⟨al, rfl⟩ := ew
            have := is_ship_s (R := R) (C := C) (s := ⟨r, c, al, k⟩) (show 1 ≤ k by omega) (show k ≤ 8 by omega)
            rw [hD] at this
            rw [this]
            have es : shipB R C (.tuple [.int r, .int c, .str (wayS al), .int (k : Nat)]) = ((decide (wayS al = ("along" : Str)) || decide (wayS al = ("down" : Str))) && (wholeB (.int r) && (wholeB (.int c) && (sideB (.int (k : Nat)) && (!(decide (((k : Nat) : Int) = 1) && decide (wayS al = ("down" : Str))) && Ship.on R C ⟨r, c, decide (wayS al = ("along" : Str)), ((k : Nat) : Int).toNat⟩))))) := rfl
            rw [es, q, qa, qb, ql, way_along, way_down]
            simp only [Int.toNat_natCast, Bool.true_and]
            have e1 : decide (((k : Nat) : Int) = 1) = decide (k = 1) := by
              by_cases h : k = 1
              · rw [decide_eq_true h, decide_eq_true (by omega)]
              · rw [decide_eq_false h, decide_eq_false (by omega)]
            rw [e1]
  | _ => unfold q_is_ship q_is_ship_0 shipB; decreasing_trivial_pre_omega
theorem is_ship_q {R C : Int} {d : PyData} (h : SeqAt.shaped d = true) : q_is_ship [cD (R, C), d] = .ok (.sh (.bool (shipB R C d))) := by
  have h1 := noD_of (shaped_lay h)
  cases d with
  | tuple xs =>
    have h2 := tup_noD h
    match xs, h2 with
    | [a, b, w, l], h2 => exact is_ship4 (h2 a (by simp)) (h2 b (by simp)) (h2 w (by simp)) (h2 l (by simp))
    | [], _ => exact is_ship_len (xs := []) (by decide)
    | [a], _ => exact is_ship_len (xs := [a]) (by simp)
    | [a, b], _ => exact is_ship_len (xs := [a, b]) (by simp)
    | [a, b, c], _ =>
      rw [is_ship_len (xs := [a, b, c]) (by simp)]
      cases c <;> rfl
    | a :: b :: c :: d :: e :: r, _ =>
      rw [is_ship_len (xs := a :: b :: c :: d :: e :: r) (by simp)]
      cases c <;> rfl
  | dict _ => cases h1
  | _ => exact is_ship_no h1 (fun xs h => by cases h)
/-! ### fleets -/
def desc : List Int → Bool
  | a :: b :: l => decide (b ≤ a) && desc (b :: l)
  | _ => true
def intL : List PyData → List Int
  | [] => []
  | d :: ds => iOf d :: intL ds
def fleetB : PyData → Bool
  | .tuple xs => decide (1 ≤ xs.length) && decide (xs.length ≤ 4) && (xs.all sideB && desc (intL xs))
  | _ => false
theorem side_list : ∀ {xs : List PyData}, xs.all sideB = true → xs = (intL xs).map .int ∧ ∀ i ∈ intL xs, 1 ≤ i ∧ i ≤ 8
  | [], _ => ⟨rfl, by simp [intL]⟩
  | x :: xs, h => by
    rw [List.all_cons, Bool.and_eq_true] at h
    obtain ⟨i, rfl, h1, h2⟩ := side_int h.1
    obtain ⟨e, hb⟩ := side_list h.2
    refine ⟨by rw [intL, List.map_cons, iOf, ← e], fun j hj => ?_⟩
    rw [intL] at hj
    rcases List.mem_cons.mp hj with rfl | hj
    · exact ⟨h1, h2⟩
    · exact hb j hj
def pairs : List Int → List (Int × Int)
  | a :: b :: l => (a, b) :: pairs (b :: l)
  | _ => []
theorem pairD_ints : ∀ is : List Int, Ev.pairD (is.map .int) ((is.map PyData.int).drop 1) = (pairs is).map cD
  | [] => rfl
  | [a] => rfl
  | a :: b :: l => by
    have := pairD_ints (b :: l)
    simp only [List.map_cons, List.drop_succ_cons, List.drop_zero] at this ⊢
    rw [Ev.pairD, this]; rfl
theorem desc_pairs : ∀ is : List Int, desc is = (pairs is).all fun p => decide (p.2 ≤ p.1)
  | [] => rfl
  | [a] => rfl
  | a :: b :: l => by rw [desc, pairs, List.all_cons, desc_pairs (b :: l)]
theorem pairs_len : ∀ is : List Int, (pairs is).length ≤ is.length
  | [] => Nat.le_refl _
  | [a] => by simp [pairs]
  | a :: b :: l => by
    have := pairs_len (b :: l)
    simp only [pairs, List.length_cons] at this ⊢
    omega
theorem is_fleet_no {d : PyData} (h : isDict d = false) (ht : ∀ xs, d ≠ .tuple xs) : q_is_fleet [d] = .ok (.sh (.bool false)) := by
  unfold q_is_fleet q_is_fleet_0
  cases d with
  | dict _ => cases h
  | tuple xs => exact absurd rfl (ht xs)
  | _ => decreasing_trivial_pre_omega
theorem cut1 {α : Type} (xs : List α) : Ev.cutD xs (some 1) Option.none = xs.drop 1 := by
  unfold Ev.cutD
  rw [show HT.sIx xs.length 0 (some 1) = min 1 xs.length from HT.sIx_nat _ _ 1, HT.sIx_none]
  cases xs with
  | nil => rfl
  | cons x xs => simp
theorem is_fleet_q {d : PyData} (h : SeqAt.shaped d = true) : q_is_fleet [d] = .ok (.sh (.bool (fleetB d))) := by
  have h1 := noD_of (shaped_lay h)
  cases d with
  | tuple xs =>
    have h2 := tup_noD h
    have e1 : ((1 : Int) ≤ (xs.length : Nat)) ↔ 1 ≤ xs.length := by omega
    have e4 : ((xs.length : Nat) : Int) ≤ 4 ↔ xs.length ≤ 4 := by omega
    unfold q_is_fleet q_is_fleet_0 fleetB
    decreasing_trivial_pre_omega
    by_cases l1 : 1 ≤ xs.length
    · by_cases l4 : xs.length ≤ 4
      · simp only [e1, e4, l1, l4, decide_true, Bool.true_and, Bool.not_true, if_true]
        decreasing_trivial_pre_omega
        have al := all_q sideB xs
        have sz : xs.length ≤ sizeLine := by rw [sizeLine_eq]; omega
        rw [lcR_each fun d => .sh (.bool (sideB d))]
        · have mf := map_fz_shL (e := fun d => PyData.bool (sideB d)) (xs := xs)
          have zz := szR_le (x := OV.lst (xs.map fun d => .sh (.bool (sideB d)))) sz
          get_elem_tactic_trivial
          cases q : xs.all sideB with
          | false => decreasing_trivial_pre_omega
          | true =>
            obtain ⟨ex, hb⟩ := side_list q
            generalize intL xs = is at ex hb ⊢
            subst ex
            have cz : gSl (.sh (.tuple (is.map .int))) (some 1) none = some (.sh (.tuple ((is.map PyData.int).drop 1))) := by
              unfold gSl
              simp only [fz_sh, cut1]
            have zp : zipR [.sh (.tuple (is.map .int)), .sh (.tuple ((is.map PyData.int).drop 1))] = .ok ((pairs is).map cD) := by
              unfold zipR
              simp only [fz_sh, pairD_ints]
            have al2 := all_q (fun p : Cell => decide (p.2 ≤ p.1)) (pairs is)
            have pl := pairs_len is
            rw [List.length_map] at l4
            have sz2 : (pairs is).length ≤ sizeLine := by rw [sizeLine_eq]; omega
            have zz2 := szR_le (x := OV.lst ((pairs is).map fun p : Cell => .sh (.bool (decide (p.2 ≤ p.1))))) sz2
            have mf2 := map_fz_shL (e := fun p : Cell => PyData.bool (decide (p.2 ≤ p.1))) (xs := pairs is)
            clear mf zz al l1 l4 e1 e4 h h1 h2 sz q
            get_elem_tactic_trivial
            rw [lcR_map cD fun p : Cell => .sh (.bool (decide (p.2 ≤ p.1)))]
            · get_elem_tactic_trivial
              rw [desc_pairs]
            · intro p _
              unfold cD
              decreasing_trivial_pre_omega
        · intro d hd
          have := side_q (h2 d hd)
          get_elem_tactic_trivial
      · simp only [e1, e4, l1, l4, decide_true, decide_false, Bool.true_and, Bool.not_true, if_true]
        decreasing_trivial_pre_omega
    · simp only [e1, l1, decide_false, Bool.false_and]
      decreasing_trivial_pre_omega
  | dict _ => cases h1
  | _ => exact is_fleet_no h1 (fun xs h => by cases h)

/-! ### which ships there are -/
theorem ok_along {R C r c : Int} {n : Nat} (hn : 0 < n) : Ship.ok R C ⟨r, c, true, n⟩ = true ↔ 0 ≤ r ∧ r < R ∧ 0 ≤ c ∧ c + n ≤ C := by
  unfold Ship.ok
  rw [Bool.not_true, Bool.and_false, Bool.not_false, Bool.true_and, on_along hn]
theorem ok_down {R C r c : Int} {n : Nat} (hn : 0 < n) : Ship.ok R C ⟨r, c, false, n⟩ = true ↔ 1 < n ∧ 0 ≤ r ∧ r + n ≤ R ∧ 0 ≤ c ∧ c < C := by
  unfold Ship.ok
  rw [Bool.and_eq_true, on_down hn]
  simp
  omega
theorem mem_ships {R C l : Nat} (hl : 1 ≤ l) {s : Ship} : s ∈ ships R C l ↔ s.n = l ∧ s.ok R C = true := by
  obtain ⟨r, c, al, n⟩ := s
  unfold ships shipsAt
  simp only [List.mem_flatMap, List.mem_range, List.mem_append]
  constructor
  · rintro ⟨a, ha, b, hb, h | h⟩
    · by_cases q : b + l ≤ C
      · rw [if_pos q] at h
        have e := List.mem_singleton.mp h
        injection e with e1 e2 e3 e4
        subst e1 e2 e3 e4
        exact ⟨rfl, (ok_along (by omega)).mpr (by omega)⟩
      · rw [if_neg q] at h; cases h
    · by_cases q : a + l ≤ R ∧ 1 < l
      · rw [if_pos q] at h
        have e := List.mem_singleton.mp h
        injection e with e1 e2 e3 e4
        subst e1 e2 e3 e4
        exact ⟨rfl, (ok_down (by omega)).mpr (by omega)⟩
      · rw [if_neg q] at h; cases h
  · rintro ⟨e, h⟩
    have e : n = l := e
    subst e
    cases al with
    | true =>
      have := (ok_along (by omega)).mp h
      refine ⟨r.toNat, by omega, c.toNat, by omega, .inl ?_⟩
      rw [if_pos (by omega), Int.toNat_of_nonneg (by omega), Int.toNat_of_nonneg (by omega)]
      exact List.mem_singleton.mpr rfl
    | false =>
      have := (ok_down (by omega)).mp h
      refine ⟨r.toNat, by omega, c.toNat, by omega, .inr ?_⟩
      rw [if_pos (by omega : r.toNat + n ≤ R ∧ 1 < n), Int.toNat_of_nonneg (by omega), Int.toNat_of_nonneg (by omega)]
      exact List.mem_singleton.mpr rfl
theorem ship_eqv {s : Ship} {a b l : Int} {w : Str} : PyData.eqv s.d (.tuple [.int a, .int b, .str w, .int l]) = true ↔ s.r = a ∧ s.c = b ∧ wayS s.al = w ∧ (s.n : Int) = l := by
  unfold Ship.d
  simp only [PyData.eqv, PyData.eqvAll, Bool.and_true, Bool.and_eq_true, beq_iff_eq]
theorem ships_any {R C : Nat} {a b : Int} {w : Str} {l : Nat} (h1 : 1 ≤ l) (h8 : l ≤ 8) : ((ships R C l).any fun s => PyData.eqv s.d (.tuple [.int a, .int b, .str w, .int (l : Nat)])) = shipB R C (.tuple [.int a, .int b, .str w, .int (l : Nat)]) := by
  have es : shipB R C (.tuple [.int a, .int b, .str w, .int (l : Nat)]) = ((decide (w = ("along" : Str)) || decide (w = ("down" : Str))) && (true && (true && (sideB (.int (l : Nat)) && (!(decide (((l : Nat) : Int) = 1) && decide (w = ("down" : Str))) && Ship.on R C ⟨a, b, decide (w = ("along" : Str)), ((l : Nat) : Int).toNat⟩))))) := rfl
  have sl : sideB (.int (l : Nat)) = true := by simp [sideB]; omega
  have e1 : decide (((l : Nat) : Int) = 1) = decide (l = 1) := by
    by_cases h : l = 1
    · rw [decide_eq_true h, decide_eq_true (by omega)]
    · rw [decide_eq_false h, decide_eq_false (by omega)]
  have key : ((ships R C l).any fun s => PyData.eqv s.d (.tuple [.int a, .int b, .str w, .int (l : Nat)])) = true ↔ ∃ al, w = wayS al ∧ Ship.ok R C ⟨a, b, al, l⟩ = true := by
    rw [List.any_eq_true]
    constructor
    · rintro ⟨s, hs, q⟩
      obtain ⟨q1, q2, q3, q4⟩ := ship_eqv.mp q
      obtain ⟨n, hok⟩ := (mem_ships h1).mp hs
      obtain ⟨r, c, al, n'⟩ := s
      have q1 : r = a := q1
      have q2 : c = b := q2
      have n : n' = l := n
      subst q1 q2 n
      exact ⟨al, q3.symm, hok⟩
    · rintro ⟨al, rfl, hok⟩
      exact ⟨⟨a, b, al, l⟩, (mem_ships h1).mpr ⟨rfl, hok⟩, ship_eqv.mpr ⟨rfl, rfl, rfl, rfl⟩⟩
  rw [es, sl, e1, Int.toNat_natCast, Bool.eq_iff_iff, key]
  simp only [Bool.true_and]
  constructor
  · rintro ⟨al, rfl, hok⟩
    rw [way_along, way_down]
    unfold Ship.ok at hok
    cases al <;> simpa using hok
  · intro h
    rw [Bool.and_eq_true] at h
    obtain ⟨hw, h⟩ := h
    have : ∃ al, w = wayS al := by
      by_cases e : w = ("along" : Str)
      · exact ⟨true, e⟩
      · refine ⟨false, ?_⟩
        rw [decide_eq_false e, Bool.false_or, decide_eq_true_eq] at hw
        exact hw
    obtain ⟨al, rfl⟩ := this
    rw [way_along, way_down] at h
    exact ⟨al, rfl, h⟩

/-! drawn numbers, by name -/
theorem drawn1 {xs : List Int} {a : Int} (h : Drawn xs [a]) : ∃ p : Int, xs = [p] ∧ (0 ≤ p ∧ p < a) := by
  obtain ⟨hl, hb⟩ := h
  match xs, hl with
  | [p], _ => exact ⟨p, rfl, hb 0 _ _ rfl rfl⟩
theorem drawn2 {xs : List Int} {a b : Int} (h : Drawn xs [a, b]) : ∃ p q : Int, xs = [p, q] ∧ (0 ≤ p ∧ p < a) ∧ (0 ≤ q ∧ q < b) := by
  obtain ⟨hl, hb⟩ := h
  match xs, hl with
  | [p, q], _ => exact ⟨p, q, rfl, hb 0 _ _ rfl rfl, hb 1 _ _ rfl rfl⟩
theorem drawn3 {xs : List Int} {a b c : Int} (h : Drawn xs [a, b, c]) : ∃ p q r : Int, xs = [p, q, r] ∧ (0 ≤ p ∧ p < a) ∧ (0 ≤ q ∧ q < b) ∧ (0 ≤ r ∧ r < c) := by
  obtain ⟨hl, hb⟩ := h
  match xs, hl with
  | [p, q, r], _ => exact ⟨p, q, r, rfl, hb 0 _ _ rfl rfl, hb 1 _ _ rfl rfl, hb 2 _ _ rfl rfl⟩
theorem drawn4 {xs : List Int} {a b c d : Int} (h : Drawn xs [a, b, c, d]) : ∃ p q r s : Int, xs = [p, q, r, s] ∧ (0 ≤ p ∧ p < a) ∧ (0 ≤ q ∧ q < b) ∧ (0 ≤ r ∧ r < c) ∧ (0 ≤ s ∧ s < d) := by
  obtain ⟨hl, hb⟩ := h
  match xs, hl with
  | [p, q, r, s], _ => exact ⟨p, q, r, s, rfl, hb 0 _ _ rfl rfl, hb 1 _ _ rfl rfl, hb 2 _ _ rfl rfl, hb 3 _ _ rfl rfl⟩
theorem drawn5 {xs : List Int} {a b c d e : Int} (h : Drawn xs [a, b, c, d, e]) : ∃ p q r s t : Int, xs = [p, q, r, s, t] ∧ (0 ≤ p ∧ p < a) ∧ (0 ≤ q ∧ q < b) ∧ (0 ≤ r ∧ r < c) ∧ (0 ≤ s ∧ s < d) ∧ (0 ≤ t ∧ t < e) := by
  obtain ⟨hl, hb⟩ := h
  match xs, hl with
  | [p, q, r, s, t], _ => exact ⟨p, q, r, s, t, rfl, hb 0 _ _ rfl rfl, hb 1 _ _ rfl rfl, hb 2 _ _ rfl rfl, hb 3 _ _ rfl rfl, hb 4 _ _ rfl rfl⟩
theorem drawn6 {xs : List Int} {a b c d e f : Int} (h : Drawn xs [a, b, c, d, e, f]) : ∃ p q r s t u : Int, xs = [p, q, r, s, t, u] ∧ (0 ≤ p ∧ p < a) ∧ (0 ≤ q ∧ q < b) ∧ (0 ≤ r ∧ r < c) ∧ (0 ≤ s ∧ s < d) ∧ (0 ≤ t ∧ t < e) ∧ (0 ≤ u ∧ u < f) := by
  obtain ⟨hl, hb⟩ := h
  match xs, hl with
  | [p, q, r, s, t, u], _ => exact ⟨p, q, r, s, t, u, rfl, hb 0 _ _ rfl rfl, hb 1 _ _ rfl rfl, hb 2 _ _ rfl rfl, hb 3 _ _ rfl rfl, hb 4 _ _ rfl rfl, hb 5 _ _ rfl rfl⟩
theorem drawn7 {xs : List Int} {a b c d e f g : Int} (h : Drawn xs [a, b, c, d, e, f, g]) : ∃ p q r s t u v : Int, xs = [p, q, r, s, t, u, v] ∧ (0 ≤ p ∧ p < a) ∧ (0 ≤ q ∧ q < b) ∧ (0 ≤ r ∧ r < c) ∧ (0 ≤ s ∧ s < d) ∧ (0 ≤ t ∧ t < e) ∧ (0 ≤ u ∧ u < f) ∧ (0 ≤ v ∧ v < g) := by
  obtain ⟨hl, hb⟩ := h
  match xs, hl with
  | [p, q, r, s, t, u, v], _ => exact ⟨p, q, r, s, t, u, v, rfl, hb 0 _ _ rfl rfl, hb 1 _ _ rfl rfl, hb 2 _ _ rfl rfl, hb 3 _ _ rfl rfl, hb 4 _ _ rfl rfl, hb 5 _ _ rfl rfl, hb 6 _ _ rfl rfl⟩
theorem mod_at {α : Type} {n : Nat} {xs : List α} {i : Int} (hn : xs.length = n) (h0 : 0 < n) : ∃ x ∈ xs, atI xs (i % (n : Nat)) = some x := by
  have h1 := Int.emod_nonneg i (show (n : Int) ≠ 0 by omega)
  have h2 := Int.emod_lt_of_pos i (show (0 : Int) < n by omega)
  obtain ⟨j, hj⟩ := Int.eq_ofNat_of_zero_le h1
  have hlt : j < xs.length := by omega
  refine ⟨xs[j], List.getElem_mem hlt, ?_⟩
  rw [hj]
  exact atI_nat (List.getElem?_eq_getElem hlt)
theorem nat_at {α : Type} {xs : List α} {i : Int} (h0 : 0 ≤ i) (h1 : i < (xs.length : Nat)) : ∃ x ∈ xs, atI xs i = some x := by
  obtain ⟨j, rfl⟩ := Int.eq_ofNat_of_zero_le h0
  have hlt : j < xs.length := by omega
  exact ⟨xs[j], List.getElem_mem hlt, atI_nat (List.getElem?_eq_getElem hlt)⟩
theorem nat_of {i : Int} (h : 0 ≤ i) : ∃ n : Nat, i = (n : Nat) := Int.eq_ofNat_of_zero_le h
end Com
namespace Com
open PySem PySem.Spec L2 Ev
open PyProof.Rows hiding St
local macro_rules | `(tactic| decreasing_trivial_pre_omega) => `(tactic| simp only [↓R.bind_ok, ↓R.bind_exc, ↓R.bind_stk, ↓O.bind_next, ↓O.bind_ret, ↓O.bind_exc, ↓O.bind_stk, R.bind_ok, R.bind_exc, R.bind_stk, O.bind_next, O.bind_ret, O.bind_exc, O.bind_stk, O.of_ok, O.of_exc, O.of_stk, O.fin_next, O.fin_ret, O.fin_exc, ofOR_some, ofPR_some, toBR_b, andR_b, orR_b, chR_b, iR_i, noX_ok, szR_lit, Option.isSome_some, Option.isSome_none, mutR_app, mutR_some, ownR_lst, ownR_dk, ownR_dt, itR_tup, itR_list, itR_lst, unT_l2, unT_l3, unT_l4, unT_l5, unT_l6, unT_l7, unL_l2, unL_l3, unL_l4, unL_l5, unL_l6, unL_l7, nd0, nd1, nd2, nd3, nd4, nd5, nd6, par2R_ok, gAdd_int, gII_ok, gI_int, gOrd_int, gEq_int, fz_sh, fz_lst, gNot_b, g1, g1_one, gi_int_none, gi_int_bool, gi_int_int, gi_int_str, gi_int_list, gi_int_tuple, gi_bool_none, gi_bool_bool, gi_bool_int, gi_bool_str, gi_bool_list, gi_bool_tuple, gi_str_none, gi_str_bool, gi_str_int, gi_str_str, gi_str_list, gi_str_tuple, gi_list_none, gi_list_bool, gi_list_int, gi_list_str, gi_list_list, gi_list_tuple, gi_tuple_none, gi_tuple_bool, gi_tuple_int, gi_tuple_str, gi_tuple_list, gi_tuple_tuple, gMax_two, mApp_ok, ownT_lst, dLen_list, dLen_tup, gSub_list, gSub_tup, gSub_lst, atI_l0, atI_l1, atI_l2, atI_l3, atI_l4, atI_l5, atI_l6, Option.map_some, dInt_b, dInt_i, dAbs_i, List.map_cons, List.map_nil, List.cons_append, List.nil_append, if_true, if_false, Bool.false_eq_true, decide_true, decide_false, Bool.false_xor, Bool.true_xor, decide_eq_true_eq, List.length_cons, List.length_nil, nl0, nl1, nl2, nl3, nl4, nl5, nl6, nl7, nl8, nl9, nl10, nl11, nl12, nl13, nl14, nl15, nl16, nl17, nl18, nl19, nl20, Nat.reduceAdd, Nat.reduceSub, Nat.reduceMul, Int.reduceLT, Int.reduceEq, Int.reduceSub, Int.reduceAdd, Int.reduceNeg, Int.reduceLE, Int.reduceMul, Int.reduceToNat, sz_le, sz_lt, Nat.reduceLeDiff, Nat.reduceLT, Bool.not_true, Bool.not_false, Bool.true_and, Bool.and_true, Bool.false_and, Bool.and_false, Bool.true_or, Bool.or_true, Bool.false_or, Bool.or_false, rite_and, rite_or, rb_and, rb_or, Bool.decide_eq_true, Bool.decide_and, Bool.decide_or, gAdd_LL, gAdd_Ll, gAdd_lL, gAdd_lst, gAdd_TT, map_sh_fz, map_fz_shL, List.length_map, gEq_bool, eq_self, forO_nil, forO_cons, lcR_nil, rng1R_ok, rng2R_ok])
local macro_rules | `(tactic| get_elem_tactic_trivial) => `(tactic| simp only [↓R.bind_ok, ↓R.bind_exc, ↓R.bind_stk, ↓O.bind_next, ↓O.bind_ret, ↓O.bind_exc, ↓O.bind_stk, R.bind_ok, R.bind_exc, R.bind_stk, O.bind_next, O.bind_ret, O.bind_exc, O.bind_stk, O.of_ok, O.of_exc, O.of_stk, O.fin_next, O.fin_ret, O.fin_exc, ofOR_some, ofPR_some, toBR_b, andR_b, orR_b, chR_b, iR_i, noX_ok, szR_lit, Option.isSome_some, Option.isSome_none, mutR_app, mutR_some, ownR_lst, ownR_dk, ownR_dt, itR_tup, itR_list, itR_lst, unT_l2, unT_l3, unT_l4, unT_l5, unT_l6, unT_l7, unL_l2, unL_l3, unL_l4, unL_l5, unL_l6, unL_l7, nd0, nd1, nd2, nd3, nd4, nd5, nd6, par2R_ok, gAdd_int, gII_ok, gI_int, gOrd_int, gEq_int, fz_sh, fz_lst, gNot_b, g1, g1_one, gi_int_none, gi_int_bool, gi_int_int, gi_int_str, gi_int_list, gi_int_tuple, gi_bool_none, gi_bool_bool, gi_bool_int, gi_bool_str, gi_bool_list, gi_bool_tuple, gi_str_none, gi_str_bool, gi_str_int, gi_str_str, gi_str_list, gi_str_tuple, gi_list_none, gi_list_bool, gi_list_int, gi_list_str, gi_list_list, gi_list_tuple, gi_tuple_none, gi_tuple_bool, gi_tuple_int, gi_tuple_str, gi_tuple_list, gi_tuple_tuple, gMax_two, mApp_ok, ownT_lst, dLen_list, dLen_tup, gSub_list, gSub_tup, gSub_lst, atI_l0, atI_l1, atI_l2, atI_l3, atI_l4, atI_l5, atI_l6, Option.map_some, dInt_b, dInt_i, dAbs_i, List.map_cons, List.map_nil, List.cons_append, List.nil_append, if_true, if_false, Bool.false_eq_true, decide_true, decide_false, Bool.false_xor, Bool.true_xor, decide_eq_true_eq, List.length_cons, List.length_nil, nl0, nl1, nl2, nl3, nl4, nl5, nl6, nl7, nl8, nl9, nl10, nl11, nl12, nl13, nl14, nl15, nl16, nl17, nl18, nl19, nl20, Nat.reduceAdd, Nat.reduceSub, Nat.reduceMul, Int.reduceLT, Int.reduceEq, Int.reduceSub, Int.reduceAdd, Int.reduceNeg, Int.reduceLE, Int.reduceMul, Int.reduceToNat, sz_le, sz_lt, Nat.reduceLeDiff, Nat.reduceLT, Bool.not_true, Bool.not_false, Bool.true_and, Bool.and_true, Bool.false_and, Bool.and_false, Bool.true_or, Bool.or_true, Bool.false_or, Bool.or_false, rite_and, rite_or, rb_and, rb_or, Bool.decide_eq_true, Bool.decide_and, Bool.decide_or, gAdd_LL, gAdd_Ll, gAdd_lL, gAdd_lst, gAdd_TT, map_sh_fz, map_fz_shL, List.length_map, gEq_bool, eq_self, forO_nil, forO_cons, lcR_nil, rng1R_ok, rng2R_ok, *])
/-! ### things of some kind -/
def plainD (digit a b : Int) : List PyData := [.int 0, .int (-1), .int 1, .int digit, .int 8, .int 9, .bool true, .bool false, .none, .str "", .str "a1", .str "water", .str "along", .int a, .int (0 - b)]
theorem plain_gd {digit a b : Int} : ∀ d ∈ plainD digit a b, Gd 0 d := by
  unfold plainD
  simp only [List.forall_mem_cons]
  exact ⟨Gd.int _, Gd.int _, Gd.int _, Gd.int _, Gd.int _, Gd.int _, Gd.bool _, Gd.bool _, Gd.none, Gd.str (by decide +kernel), Gd.str (by decide +kernel), Gd.str (by decide +kernel), Gd.str (by decide +kernel), Gd.int _, Gd.int _, fun _ h => by cases h⟩
theorem cut_to {α : Type} (xs : List α) (k : Nat) : Ev.cutD xs none (some (k : Nat)) = xs.take k := by
  unfold Ev.cutD
  rw [show HT.sIx xs.length xs.length (some ((k : Nat) : Int)) = min k xs.length from HT.sIx_nat _ _ k, HT.sIx_none]
  simp
theorem cut_from {α : Type} (xs : List α) (k : Nat) : Ev.cutD xs (some (k : Nat)) none = xs.drop k := by
  unfold Ev.cutD
  rw [show HT.sIx xs.length 0 (some ((k : Nat) : Int)) = min k xs.length from HT.sIx_nat _ _ k, HT.sIx_none]
  by_cases h : k ≤ xs.length
  · rw [Nat.min_eq_left h, List.take_of_length_le (by rw [List.length_drop]; omega)]
  · rw [Nat.min_eq_right (by omega), List.drop_of_length_le (Nat.le_refl _), List.drop_of_length_le (by omega)]
    simp
theorem sl_to {ds : List PyData} {k : Nat} : gSl (.sh (.list ds)) none (some (k : Nat)) = some (.lst ((ds.take k).map .sh)) := by
  unfold gSl
  simp only [fz_sh, cut_to]
theorem sl_from {ds : List PyData} {k : Nat} : gSl (.sh (.list ds)) (some (k : Nat)) none = some (.lst ((ds.drop k).map .sh)) := by
  unfold gSl
  simp only [fz_sh, cut_from]
theorem sl2_to {ds : List PyData} : gSl (.sh (.list ds)) none (some 2) = some (.lst ((ds.take 2).map .sh)) := sl_to (k := 2)
theorem sl2_from {ds : List PyData} : gSl (.sh (.list ds)) (some 2) none = some (.lst ((ds.drop 2).map .sh)) := sl_from (k := 2)
theorem dTuple_l {ds : List PyData} : dTuple (.list ds) = some (.sh (.tuple ds)) := rfl
theorem dList_l {ds : List PyData} : dList (.list ds) = some (.lst (ds.map .sh)) := rfl
theorem dList_t {ds : List PyData} : dList (.tuple ds) = some (.lst (ds.map .sh)) := rfl
theorem odd_q (cell : Int) : ∃ o, q__law_odd [.int cell] = .ok o ∧ Gd 4 (fz o) := by
  obtain ⟨xs, hd, hx⟩ := drawn_q cell [19, 40, 7] (by decide) (by decide)
  obtain ⟨way, digit, deep, rfl, h0, h1, h2⟩ := drawn3 hx
  clear hx
  obtain ⟨deep, rfl⟩ := nat_of h2.1
  obtain ⟨a, pa⟩ : ∃ a : Int, gPowI (.sh (.int 10)) (.sh (.int 39)) = some (.sh (.int a)) := ⟨_, gII_ok (by decide +kernel)⟩
  obtain ⟨b, pb⟩ : ∃ a : Int, gPowI (.sh (.int 10)) (.sh (.int 20)) = some (.sh (.int a)) := ⟨_, gII_ok (by decide +kernel)⟩
  simp only [List.map_cons, List.map_nil] at hd
  have gd := plain_gd (digit := digit) (a := a) (b := b)
  unfold q__law_odd q__law_odd_0
  by_cases hw : way < 15
  · obtain ⟨d, hd2, ha⟩ := nat_at (xs := plainD digit a b) h0.1 (by exact hw)
    unfold plainD at ha
    refine ⟨.sh d, ?_, by rw [fz_sh]; exact (gd d hd2).le (by decide)⟩
    clear gd hd2 h0 h1 h2
    get_elem_tactic_trivial
  · have hp : ∀ k : Nat, ∃ x, x ∈ plainD digit a b ∧ atI (plainD digit a b) ((digit + (k : Nat) * (k : Nat)) % 15) = some x := fun k => by
      obtain ⟨x, h1, h2⟩ := mod_at (xs := plainD digit a b) (n := 15) (i := digit + (k : Nat) * (k : Nat)) rfl (by decide)
      exact ⟨x, h1, h2⟩
    obtain ⟨f, hf⟩ := Classical.axiomOfChoice hp
    have rg := rng1R_n (k := deep) (by omega)
    have zz := szR_le (n := (List.range deep).length) (x := OV.lst ((List.range deep).map fun k => .sh (f k))) (by rw [List.length_range, sizeLine_eq]; omega)
    have gf : ∀ d ∈ (List.range deep).map f, Gd 0 d := fun d hd => by
      obtain ⟨k, _, rfl⟩ := List.mem_map.mp hd
      exact gd _ (hf k).1
    have mf := map_fz_shL (e := f) (xs := List.range deep)
    have ff : fz (shL f (List.range deep)) = .list ((List.range deep).map f) := fz_shL
    have at2 : ∀ k : Nat, atI [PyData.int 0, .int (-1), .int 1, .int digit, .int 8, .int 9, .bool true, .bool false, .none, .str "", .str "a1", .str "water", .str "along", .int a, .int (0 - b)] ((digit + (k : Nat) * (k : Nat)) % 15) = some (f k) := fun k => (hf k).2
    have mm : ∀ k : Nat, k < deep → gMulI (.sh (.int (k : Nat))) (.sh (.int (k : Nat))) = some (.sh (.int ((k : Nat) * (k : Nat)))) := fun k hk => gII_ok (mulOk_l ⟨by omega, by omega⟩)
    have lc : ∀ g : PyData → Ev.R (Option OV), (∀ k : Nat, k < deep → g (.int (k : Nat)) = .ok (some (.sh (f k)))) → lcR g ((List.range deep).map fun z => .int ((z : Nat) : Int)) = .ok ((List.range deep).map fun k => .sh (f k)) := fun g hg => lcR_map _ (fun k => .sh (f k)) (List.range deep) fun k hk => hg k (List.mem_range.mp hk)
    clear hp gd hf
    have z2 : ∀ l : List PyData, l.length ≤ 10 → szR l.length (OV.lst (l.map .sh)) = .ok (.lst (l.map .sh)) := fun l hl => szR_lit (by omega)
    get_elem_tactic_trivial
    rw [lc]
    · clear lc mm at2
      have hw4 : way = 15 ∨ way = 16 ∨ way = 17 ∨ way = 18 := by omega
      have nlen : ((List.range deep).map f).length = deep := by rw [List.length_map, List.length_range]
      generalize hL : (List.range deep).map f = L at gf mf ff nlen
      have e3 : (3 : Int) < (deep : Nat) ↔ 3 < deep := by omega
      by_cases d3 : 3 < deep
      · match L, nlen with
        | a0 :: b0 :: c0 :: e0 :: l, _ =>
          have t2 := sl2_to (ds := a0 :: b0 :: c0 :: e0 :: l)
          have t3 := sl2_from (ds := a0 :: b0 :: c0 :: e0 :: l)
          simp only [List.take_succ_cons, List.take_zero, List.drop_succ_cons, List.drop_zero] at t2 t3
          have z5 := szR_lit (x := OV.lst [.sh (.tuple [a0, b0]), .lst ((c0 :: e0 :: l).map .sh), .sh a0]) (n := 3) (by decide)
          have gfa := gf a0 (by simp)
          have gfb := gf b0 (by simp)
          have gfl : ∀ d ∈ c0 :: e0 :: l, Gd 0 d := fun d hd => gf d (by simp at hd ⊢; rcases hd with h | h | h <;> simp [h])
          have g1 : Gd 1 (.tuple [a0, b0]) := Gd.tup (by simp only [List.forall_mem_cons]; exact ⟨gfa, gfb, fun _ h => by cases h⟩)
          have g2 : Gd 1 (.list (c0 :: e0 :: l)) := Gd.list gfl
          have g3 : ∀ d ∈ [.tuple [a0, b0], .list (c0 :: e0 :: l), a0], Gd 1 d := by simp only [List.forall_mem_cons]; exact ⟨g1, g2, gfa.le (by decide), fun _ h => by cases h⟩
          generalize c0 :: e0 :: l = M at *
          rcases hw4 with rfl | rfl | rfl | rfl
          · refine ⟨_, by get_elem_tactic_trivial; rfl, ?_⟩
            simp only [fz_sh, fz_lst, fzs_eq, List.map_cons, List.map_nil, map_sh_fz]
            exact (Gd.tup g3).le (by decide)
          · refine ⟨_, by get_elem_tactic_trivial; rfl, ?_⟩
            simp only [fz_sh, fz_lst, fzs_eq, List.map_cons, List.map_nil, map_sh_fz]
            exact (Gd.list g3).le (by decide)
          · refine ⟨_, by get_elem_tactic_trivial; rfl, ?_⟩
            simp only [fz_sh, fz_lst, fzs_eq, List.map_cons, List.map_nil, map_sh_fz]
            exact (Gd.tup (n := 2) (by simp only [List.forall_mem_cons]; exact ⟨Gd.list g3, Gd.tup g3, fun _ h => by cases h⟩)).le (by decide)
          · have t4 := sl2_to (ds := [.tuple [a0, b0], .list M, a0])
            simp only [List.take_succ_cons, List.take_zero, List.map_cons, List.map_nil] at t4
            refine ⟨_, by get_elem_tactic_trivial; rfl, ?_⟩
            (try simp only [fz_sh, fz_lst, fzs_eq, List.map_cons, List.map_nil, map_sh_fz])
            have g5 : ∀ d ∈ [.tuple [a0, b0], .list M], Gd 1 d := by simp only [List.forall_mem_cons]; exact ⟨g1, g2, fun _ h => by cases h⟩
            exact (Gd.tup g5).le (by decide)
        | [], h => simp at h; omega
        | [_], h => simp at h; omega
        | [_, _], h => simp at h; omega
        | [_, _, _], h => simp at h; omega
      · have gL := gf
        rcases hw4 with rfl | rfl | rfl | rfl
        · refine ⟨_, by get_elem_tactic_trivial; rfl, ?_⟩
          (try simp only [fz_sh, fz_lst, fzs_eq, List.map_cons, List.map_nil, map_sh_fz])
          exact (Gd.tup gL).le (by decide)
        · refine ⟨_, by get_elem_tactic_trivial; rfl, ?_⟩
          (try simp only [fz_sh, fz_lst, fzs_eq, List.map_cons, List.map_nil, map_sh_fz])
          exact (Gd.list gL).le (by decide)
        · refine ⟨_, by get_elem_tactic_trivial; rfl, ?_⟩
          (try simp only [fz_sh, fz_lst, fzs_eq, List.map_cons, List.map_nil, map_sh_fz])
          exact (Gd.tup (n := 1) (by simp only [List.forall_mem_cons]; exact ⟨Gd.list gL, Gd.tup gL, fun _ h => by cases h⟩)).le (by decide)
        · have t2 := sl2_to (ds := L)
          refine ⟨_, by get_elem_tactic_trivial; rfl, ?_⟩
          (try simp only [fz_sh, fz_lst, fzs_eq, List.map_cons, List.map_nil, map_sh_fz])
          exact (Gd.tup fun d hd => gL d (List.mem_of_mem_take hd)).le (by decide)
    · intro k hk
      have := mm k hk
      get_elem_tactic_trivial
end Com
namespace Com
open PySem PySem.Spec L2 Ev
open PyProof.Rows hiding St
local macro_rules | `(tactic| decreasing_trivial_pre_omega) => `(tactic| simp only [↓R.bind_ok, ↓R.bind_exc, ↓R.bind_stk, ↓O.bind_next, ↓O.bind_ret, ↓O.bind_exc, ↓O.bind_stk, R.bind_ok, R.bind_exc, R.bind_stk, O.bind_next, O.bind_ret, O.bind_exc, O.bind_stk, O.of_ok, O.of_exc, O.of_stk, O.fin_next, O.fin_ret, O.fin_exc, ofOR_some, ofPR_some, toBR_b, andR_b, orR_b, chR_b, iR_i, noX_ok, szR_lit, Option.isSome_some, Option.isSome_none, mutR_app, mutR_some, ownR_lst, ownR_dk, ownR_dt, itR_tup, itR_list, itR_lst, unT_l2, unT_l3, unT_l4, unT_l5, unT_l6, unT_l7, unL_l2, unL_l3, unL_l4, unL_l5, unL_l6, unL_l7, nd0, nd1, nd2, nd3, nd4, nd5, nd6, par2R_ok, gAdd_int, gII_ok, gI_int, gOrd_int, gEq_int, fz_sh, fz_lst, gNot_b, g1, g1_one, gi_int_none, gi_int_bool, gi_int_int, gi_int_str, gi_int_list, gi_int_tuple, gi_bool_none, gi_bool_bool, gi_bool_int, gi_bool_str, gi_bool_list, gi_bool_tuple, gi_str_none, gi_str_bool, gi_str_int, gi_str_str, gi_str_list, gi_str_tuple, gi_list_none, gi_list_bool, gi_list_int, gi_list_str, gi_list_list, gi_list_tuple, gi_tuple_none, gi_tuple_bool, gi_tuple_int, gi_tuple_str, gi_tuple_list, gi_tuple_tuple, gMax_two, mApp_ok, ownT_lst, dLen_list, dLen_tup, gSub_list, gSub_tup, gSub_lst, atI_l0, atI_l1, atI_l2, atI_l3, atI_l4, atI_l5, atI_l6, Option.map_some, dInt_b, dInt_i, dAbs_i, List.map_cons, List.map_nil, List.cons_append, List.nil_append, if_true, if_false, Bool.false_eq_true, decide_true, decide_false, Bool.false_xor, Bool.true_xor, decide_eq_true_eq, List.length_cons, List.length_nil, nl0, nl1, nl2, nl3, nl4, nl5, nl6, nl7, nl8, nl9, nl10, nl11, nl12, nl13, nl14, nl15, nl16, nl17, nl18, nl19, nl20, Nat.reduceAdd, Nat.reduceSub, Nat.reduceMul, Int.reduceLT, Int.reduceEq, Int.reduceSub, Int.reduceAdd, Int.reduceNeg, Int.reduceLE, Int.reduceMul, Int.reduceToNat, sz_le, sz_lt, Nat.reduceLeDiff, Nat.reduceLT, Bool.not_true, Bool.not_false, Bool.true_and, Bool.and_true, Bool.false_and, Bool.and_false, Bool.true_or, Bool.or_true, Bool.false_or, Bool.or_false, rite_and, rite_or, rb_and, rb_or, Bool.decide_eq_true, Bool.decide_and, Bool.decide_or, gAdd_LL, gAdd_Ll, gAdd_lL, gAdd_lst, gAdd_TT, map_sh_fz, map_fz_shL, List.length_map, gEq_bool, eq_self, forO_nil, forO_cons, lcR_nil, rng1R_ok, rng2R_ok])
local macro_rules | `(tactic| get_elem_tactic_trivial) => `(tactic| simp only [↓R.bind_ok, ↓R.bind_exc, ↓R.bind_stk, ↓O.bind_next, ↓O.bind_ret, ↓O.bind_exc, ↓O.bind_stk, R.bind_ok, R.bind_exc, R.bind_stk, O.bind_next, O.bind_ret, O.bind_exc, O.bind_stk, O.of_ok, O.of_exc, O.of_stk, O.fin_next, O.fin_ret, O.fin_exc, ofOR_some, ofPR_some, toBR_b, andR_b, orR_b, chR_b, iR_i, noX_ok, szR_lit, Option.isSome_some, Option.isSome_none, mutR_app, mutR_some, ownR_lst, ownR_dk, ownR_dt, itR_tup, itR_list, itR_lst, unT_l2, unT_l3, unT_l4, unT_l5, unT_l6, unT_l7, unL_l2, unL_l3, unL_l4, unL_l5, unL_l6, unL_l7, nd0, nd1, nd2, nd3, nd4, nd5, nd6, par2R_ok, gAdd_int, gII_ok, gI_int, gOrd_int, gEq_int, fz_sh, fz_lst, gNot_b, g1, g1_one, gi_int_none, gi_int_bool, gi_int_int, gi_int_str, gi_int_list, gi_int_tuple, gi_bool_none, gi_bool_bool, gi_bool_int, gi_bool_str, gi_bool_list, gi_bool_tuple, gi_str_none, gi_str_bool, gi_str_int, gi_str_str, gi_str_list, gi_str_tuple, gi_list_none, gi_list_bool, gi_list_int, gi_list_str, gi_list_list, gi_list_tuple, gi_tuple_none, gi_tuple_bool, gi_tuple_int, gi_tuple_str, gi_tuple_list, gi_tuple_tuple, gMax_two, mApp_ok, ownT_lst, dLen_list, dLen_tup, gSub_list, gSub_tup, gSub_lst, atI_l0, atI_l1, atI_l2, atI_l3, atI_l4, atI_l5, atI_l6, Option.map_some, dInt_b, dInt_i, dAbs_i, List.map_cons, List.map_nil, List.cons_append, List.nil_append, if_true, if_false, Bool.false_eq_true, decide_true, decide_false, Bool.false_xor, Bool.true_xor, decide_eq_true_eq, List.length_cons, List.length_nil, nl0, nl1, nl2, nl3, nl4, nl5, nl6, nl7, nl8, nl9, nl10, nl11, nl12, nl13, nl14, nl15, nl16, nl17, nl18, nl19, nl20, Nat.reduceAdd, Nat.reduceSub, Nat.reduceMul, Int.reduceLT, Int.reduceEq, Int.reduceSub, Int.reduceAdd, Int.reduceNeg, Int.reduceLE, Int.reduceMul, Int.reduceToNat, sz_le, sz_lt, Nat.reduceLeDiff, Nat.reduceLT, Bool.not_true, Bool.not_false, Bool.true_and, Bool.and_true, Bool.false_and, Bool.and_false, Bool.true_or, Bool.or_true, Bool.false_or, Bool.or_false, rite_and, rite_or, rb_and, rb_or, Bool.decide_eq_true, Bool.decide_and, Bool.decide_or, gAdd_LL, gAdd_Ll, gAdd_lL, gAdd_lst, gAdd_TT, map_sh_fz, map_fz_shL, List.length_map, gEq_bool, eq_self, forO_nil, forO_cons, lcR_nil, rng1R_ok, rng2R_ok, *])
/-! ### hidings -/
abbrev Hid := List Ship
def hD (h : Hid) : PyData := .tuple (h.map Ship.d)
/-- may s come next -/
def later (h : Hid) (s : Ship) : Bool := match h.getLast? with
  | none => true
  | some t => decide (t.n ≠ s.n) || t.lt s
def okNext (u : Rule) (h : Hid) (s : Ship) : Bool := later h s && h.all fun t => keepB u t s
def extH (R C : Nat) (u : Rule) (rows : List Hid) (l : Nat) : List Hid := rows.flatMap fun h => ((ships R C l).filter (okNext u h)).map fun s => h ++ [s]
def allH (R C : Nat) (u : Rule) (fleet : List Nat) : List Hid := fleet.foldl (extH R C u) [[]]
theorem extH_len {R C : Nat} {u : Rule} {rows : List Hid} {l : Nat} : (extH R C u rows l).length ≤ rows.length * (R * (C * 2)) := by
  refine flat_le rows fun h _ => ?_
  rw [List.length_map]
  exact Nat.le_trans (List.length_filter_le _ _) ships_len
theorem allH_snoc {R C : Nat} {u : Rule} {fleet : List Nat} {l : Nat} : allH R C u (fleet ++ [l]) = extH R C u (allH R C u fleet) l := by
  unfold allH
  rw [List.foldl_append]; rfl
theorem allH_len {R C : Nat} {u : Rule} (fleet : List Nat) : (allH R C u fleet).length ≤ (R * (C * 2)) ^ fleet.length := by
  suffices h : ∀ n (f : List Nat), f.length = n → (allH R C u f).length ≤ (R * (C * 2)) ^ n from h _ fleet rfl
  intro n
  induction n with
  | zero => intro f hf; have := List.eq_nil_of_length_eq_zero hf; subst this; simp [allH]
  | succ n ih =>
    intro f hf
    have hne : f ≠ [] := fun e => by rw [e] at hf; cases hf
    obtain ⟨g, l, rfl⟩ : ∃ g l, f = g ++ [l] := ⟨f.dropLast, f.getLast hne, (List.dropLast_concat_getLast hne).symm⟩
    rw [List.length_append, List.length_singleton] at hf
    rw [allH_snoc]
    refine Nat.le_trans extH_len ?_
    rw [Nat.pow_succ]
    exact Nat.mul_le_mul_right _ (ih g (by omega))
/-- lengths of a hiding are the fleet's -/
theorem allH_ns {R C : Nat} {u : Rule} : ∀ (fleet : List Nat) (h : Hid), h ∈ allH R C u fleet → h.map (·.n) = fleet := by
  suffices hs : ∀ n (f : List Nat), f.length = n → ∀ h, h ∈ allH R C u f → h.map (·.n) = f from fun f h hh => hs _ f rfl h hh
  intro n
  induction n with
  | zero => intro f hf h hh; have := List.eq_nil_of_length_eq_zero hf; subst this; simp [allH] at hh; subst hh; rfl
  | succ n ih =>
    intro f hf h hh
    have hne : f ≠ [] := fun e => by rw [e] at hf; cases hf
    obtain ⟨g, l, rfl⟩ : ∃ g l, f = g ++ [l] := ⟨f.dropLast, f.getLast hne, (List.dropLast_concat_getLast hne).symm⟩
    rw [List.length_append, List.length_singleton] at hf
    rw [allH_snoc] at hh
    unfold extH at hh
    simp only [List.mem_flatMap, List.mem_map, List.mem_filter] at hh
    obtain ⟨h0, hh0, s, ⟨hs, _⟩, rfl⟩ := hh
    rw [List.map_append, ih g (by omega) h0 hh0]
    rw [List.map_cons, List.map_nil, mem_shipsN hs]
theorem gLt_ship {s t : Ship} : gLt (.sh s.d) (.sh t.d) = some (.sh (.bool (s.lt t))) := by
  have a1 := EqE.ship.shaped (by decide) s
  have a2 := EqE.ship.shaped (by decide) t
  have e : ∀ (x y : Ship), gLt (.sh x.d) (.sh y.d) = if PySem.W.alike x.d y.d = true ∧ SeqAt.shaped x.d = true ∧ SeqAt.shaped y.d = true then some (.sh (.bool (PySem.W.dataLt x.d y.d))) else none := fun x y => by
    unfold gLt gOrd Ship.d
    simp only [fz_sh]
  rw [e, if_pos ⟨ship_alike s t, a1, a2⟩, ship_lt]
/-! as the law reckons them -/
def halD (u : Rule) (h : Hid) : PyData := .list (h.map fun s => dtD (halo u s))
def rowD (u : Rule) (h : Hid) : PyData := .tuple [hD h, halD u h]
theorem free_q {u : Rule} {h : Hid} {s : Ship} : q__law_free [halD u h, .list (s.cells.map cD)] = .ok (.sh (.bool (h.all fun t => keepB u t s))) := by
  have kb : ∀ t : Ship, (s.cells.all fun p => decide (p ∉ halo u t)) = keepB u t s := fun t => by
    rw [Bool.eq_iff_iff, keepB_halo, List.all_eq_true]
    simp
  unfold q__law_free q__law_free_0 halD
  decreasing_trivial_pre_omega
  rw [forO_all (o := .sh (.bool false)) (fun t : Ship => dtD (halo u t)) fun t => keepB u t s]
  · cases (h.all fun t => keepB u t s) <;> decreasing_trivial_pre_omega
  · intro t _
    unfold q__law_free_2
    decreasing_trivial_pre_omega
    rw [forO_all (o := .sh (.bool false)) cD fun p => decide (p ∉ halo u t)]
    · rw [kb]
      cases keepB u t s <;> decreasing_trivial_pre_omega
    · intro p _
      have := in_dtD (neg := false) (l := halo u t) (p := p)
      unfold q__law_free_1
      by_cases hp : p ∈ halo u t <;> get_elem_tactic_trivial <;> simp
theorem atI_last {α : Type} {xs : List α} {x : α} : atI (xs ++ [x]) (-1) = some x := by
  unfold atI ixN
  have : ((xs ++ [x]).length : Int) = xs.length + 1 := by simp
  rw [if_neg (by decide), if_pos (by omega)]
  have e : (-1 + ((xs ++ [x]).length : Int)).toNat = xs.length := by omega
  rw [e]
  simp

abbrev fD (fleet : List Nat) : PyData := .tuple (fleet.map fun n => .int (n : Nat))
/-- is the row of the fleet's first p lengths; may its length be followed by l -/
def RowOk (fleet : List Nat) (p : Nat) (h : Hid) : Prop := h.map (·.n) = fleet.take p ∧ p < fleet.length
theorem later_q {fleet : List Nat} {p l : Nat} {h : Hid} {s : Ship} (hr : RowOk fleet p h) (hs : s.n = l) :
    (p = 0 → h = [] ∧ later h s = true) ∧ (p ≠ 0 → ∃ t h0 k, h = h0 ++ [t] ∧ atI (fleet.map fun n => PyData.int ((n : Nat) : Int)) ((p : Nat) - 1) = some (.int (k : Nat)) ∧ k = t.n ∧ later h s = (decide (k ≠ l) || t.lt s)) := by
  obtain ⟨e, hp⟩ := hr
  refine ⟨fun h0 => ?_, fun h0 => ?_⟩
  · subst h0
    have : h = [] := by simpa using e
    subst this
    exact ⟨rfl, rfl⟩
  · have hl : h.length = p := by
      have := congrArg List.length e
      rw [List.length_map, List.length_take] at this
      omega
    have hne : h ≠ [] := fun z => by rw [z] at hl; exact h0 hl.symm
    obtain ⟨h1, t, rfl⟩ : ∃ h1 t, h = h1 ++ [t] := ⟨h.dropLast, h.getLast hne, (List.dropLast_concat_getLast hne).symm⟩
    rw [List.length_append, List.length_singleton] at hl
    refine ⟨t, h1, t.n, rfl, ?_, rfl, ?_⟩
    · have e1 : fleet[p - 1]? = some t.n := by
        have e2 : ((h1 ++ [t]).map (·.n))[p - 1]? = some t.n := by
          rw [show p - 1 = h1.length by omega]
          simp
        rw [e, List.getElem?_take_of_lt (by omega)] at e2
        exact e2
      have e3 : ((p : Nat) : Int) - 1 = ((p - 1 : Nat) : Int) := by omega
      rw [e3]
      exact atI_nat (by rw [List.getElem?_map, e1]; rfl)
    · unfold later
      simp only [List.getLast?_append, List.getLast?_singleton, Option.some_or, hs]
theorem all1_q {u : Rule} {fleet : List Nat} {p l : Nat} {S : List Ship} {h : Hid} {k : Nat} {s : Ship} {acc : List Hid} {vs vh vg : OV} (hvs : fz vs = .list (S.map Ship.d)) (hvh : fz vh = .list (S.map fun s => dtD (halo u s))) (hvg : fz vg = .list (S.map fun s => .list (s.cells.map cD)))
    (hr : RowOk fleet p h) (hk : S[k]? = some s) (hs : s.n = l) (ha : acc.length < sizeLine) (hl : h.length ≤ 100) :
    q__law_all_1 (fD fleet) [.int (p : Nat), .int (l : Nat)] vs vh vg [hD h, halD u h] (.int (k : Nat)) (shL (rowD u) acc) = .next (shL (rowD u) (acc ++ if okNext u h s = true then [h ++ [s]] else [])) := by
  have a1 : atI (S.map Ship.d) (k : Nat) = some s.d := atI_nat (by rw [List.getElem?_map, hk]; rfl)
  have a2 : atI (S.map fun s => dtD (halo u s)) (k : Nat) = some (dtD (halo u s)) := atI_nat (by rw [List.getElem?_map, hk]; rfl)
  have a3 : atI (S.map fun s => PyData.list (s.cells.map cD)) (k : Nat) = some (.list (s.cells.map cD)) := atI_nat (by rw [List.getElem?_map, hk]; rfl)
  have fq := free_q (u := u) (h := h) (s := s)
  obtain ⟨l0, l1⟩ := later_q hr hs
  have g1 : gAdd (.sh (hD h)) (.sh (.tuple [s.d])) = some (.sh (hD (h ++ [s]))) := by
    unfold hD
    rw [gAdd_TT (by rw [List.length_map, List.length_singleton, sizeLine_eq]; omega), List.map_append]; rfl
  have g2 : gAdd (.sh (halD u h)) (.lst [.sh (dtD (halo u s))]) = some (.lst ((h ++ [s]).map fun s => .sh (dtD (halo u s)))) := by
    unfold halD
    rw [gAdd_Ll (by rw [List.length_map, List.length_singleton, sizeLine_eq]; omega)]
    simp [fz_sh]
  have ap := mutR_some (app_shL (en := rowD u) (a := acc) (c := h ++ [s]) ha)
  have mf : fz (.lst ((h ++ [s]).map fun s => OV.sh (dtD (halo u s)))) = halD u (h ++ [s]) := fz_shL
  have ce : (((p : Nat) : Int) = 0) ↔ p = 0 := by omega
  unfold rowD at ap
  have fin : okNext u h s = (later h s && h.all fun t => keepB u t s) := rfl
  unfold q__law_all_1
  by_cases hp : p = 0
  · have e2 := (l0 hp).2
    rw [e2] at fin
    clear l0 l1 hk hr
    cases hq : h.all fun t => keepB u t s with
    | false => rw [hq] at fq fin; clear g1 g2 ap mf; get_elem_tactic_trivial; simp
    | true => rw [hq] at fq fin; get_elem_tactic_trivial; rw [shL, List.map_append]; rfl
  · obtain ⟨t, h0, k', e1, e2, e3, e4⟩ := l1 hp
    have gl : Ev.gSub (.sh (hD h)) (.sh (.int (-1))) = some (.sh t.d) := by
      unfold hD
      rw [gSub_tup, e1, List.map_append, List.map_cons, List.map_nil, atI_last]; rfl
    have glt := gLt_ship (s := t) (t := s)
    have ck : (((k' : Nat) : Int) = (l : Nat)) ↔ k' = l := by omega
    rw [e4] at fin
    clear l0 l1 hk hr e1 e4 e3
    by_cases hkl : k' = l
    · have hkl' : decide (k' ≠ l) = false := by simp [hkl]
      rw [hkl', Bool.false_or] at fin
      cases hlt : t.lt s with
      | false => rw [hlt] at glt fin; clear g1 g2 ap mf fq; get_elem_tactic_trivial; simp
      | true =>
        rw [hlt] at glt fin
        cases hq : h.all fun t => keepB u t s with
        | false => rw [hq] at fq fin; clear g1 g2 ap mf; get_elem_tactic_trivial; simp
        | true => rw [hq] at fq fin; get_elem_tactic_trivial; rw [shL, List.map_append]; rfl
    · have hkl' : decide (k' ≠ l) = true := by simp [hkl]
      rw [hkl', Bool.true_or] at fin
      cases hq : h.all fun t => keepB u t s with
      | false => rw [hq] at fq fin; clear g1 g2 ap mf; get_elem_tactic_trivial; simp
      | true => rw [hq] at fq fin; get_elem_tactic_trivial; rw [shL, List.map_append]; rfl

/-- a walk by places is a walk -/
def pickF {α β : Type} (S : List α) (f : α → List β) (k : Nat) : List β := match S[k]? with
  | some s => f s
  | none => []
theorem pickF_at {α β : Type} {S : List α} {f : α → List β} {k : Nat} {s : α} (h : S[k]? = some s) : pickF S f k = f s := by unfold pickF; rw [h]
theorem flat_range {α β : Type} (f : α → List β) : ∀ S : List α, (List.range S.length).flatMap (pickF S f) = S.flatMap f := by
  intro S
  have h : (List.range S.length).map (fun k => S[k]?) = S.map some := by
    apply List.ext_getElem?
    intro i
    by_cases hi : i < S.length
    · simp [hi]
    · simp [hi]
  have e : (List.range S.length).flatMap (pickF S f) = ((List.range S.length).map (fun k => S[k]?)).flatMap (fun o => match o with | some s => f s | none => []) := by rw [List.flatMap_map]; rfl
  rw [e, h, List.flatMap_map]
theorem flat_filter {α β : Type} (p : α → Bool) (g : α → β) : ∀ S : List α, S.flatMap (fun s => if p s = true then [g s] else []) = (S.filter p).map g
  | [] => rfl
  | s :: S => by
    rw [List.flatMap_cons, flat_filter p g S]
    cases h : p s <;> simp [h]
theorem flat_len1 {α β : Type} {f : α → List β} (h : ∀ x, (f x).length ≤ 1) (S : List α) : (S.flatMap f).length ≤ S.length := by
  have := flat_le (m := 1) S fun x _ => h x
  omega
theorem all2_q {u : Rule} {fleet : List Nat} {p l : Nat} {S : List Ship} {h : Hid} {acc : List Hid} {vs vh vg : OV} {x : PyData} (hvs : fz vs = .list (S.map Ship.d)) (hvh : fz vh = .list (S.map fun s => dtD (halo u s))) (hvg : fz vg = .list (S.map fun s => .list (s.cells.map cD)))
    (hr : RowOk fleet p h) (hs : ∀ s ∈ S, s.n = l) (ha : acc.length + (((S.filter (okNext u h)).map fun s => h ++ [s])).length < sizeLine) (hl : h.length ≤ 100) (hS : S.length ≤ 1000) :
    q__law_all_2 (fD fleet) [.int (p : Nat), .int (l : Nat)] vs vh vg [hD h, halD u h] x (shL (rowD u) acc) = .next (shL (rowD u) (acc ++ (S.filter (okNext u h)).map fun s => h ++ [s])) := by
  have rg := rng1R_n (k := S.length) (by omega)
  have fe : (List.range S.length).flatMap (pickF S fun s => if okNext u h s = true then [h ++ [s]] else []) = (S.filter (okNext u h)).map fun s => h ++ [s] := by
    rw [flat_range (fun s => if okNext u h s = true then [h ++ [s]] else []), flat_filter (okNext u h) fun s => h ++ [s]]
  unfold q__law_all_2
  get_elem_tactic_trivial
  rw [forO_g1 (fun k : Nat => .int (k : Nat)) (rowD u) (pickF S fun s => if okNext u h s = true then [h ++ [s]] else []) (sizeLine - 1)]
  · rw [fe]
    decreasing_trivial_pre_omega
  · rw [fe]; omega
  · intro k hk a hb
    rw [List.mem_range] at hk
    have e := List.getElem?_eq_getElem hk
    rw [pickF_at e] at hb ⊢
    have hlt : a.length < sizeLine := by have := sizeLine_eq; omega
    exact all1_q hvs hvh hvg hr e (hs _ (List.getElem_mem hk)) hlt hl
theorem all3_q {R C : Nat} {u : Rule} {fleet : List Nat} {p l : Nat} {rows : List Hid} {x : PyData} (hR : R ≤ 8) (hC : C ≤ 8) (hl : l ≤ 1000) (hr : ∀ h ∈ rows, RowOk fleet p h) (hf : fleet.length ≤ 100) (hb : (extH R C u rows l).length < sizeLine) (hb0 : rows.length < sizeLine) :
    q__law_all_3 (cD (R, C)) (fD fleet) u.d [.int (p : Nat), .int (l : Nat)] x (shL (rowD u) rows) = .next (shL (rowD u) (extH R C u rows l)) := by
  have hb8 : R * (C * 2) ≤ 8 * 16 := Nat.mul_le_mul (by omega) (by omega)
  have sl := ships_len (R := R) (C := C) (l := l)
  have sq := law_ships_q (R := R) (C := C) (l := l) (by omega) (by omega)
  have sn : ∀ s ∈ ships R C l, s.n = l := fun s hs => mem_shipsN hs
  unfold extH at hb ⊢
  generalize ships R C l = S at *
  have hz : S.length ≤ sizeLine := by rw [sizeLine_eq]; omega
  have z1 := szR_le (x := OV.lst (S.map fun s => dtC (halo u s))) hz
  have z2 := szR_le (x := OV.lst (S.map fun s => shL cD s.cells)) hz
  have m1 : fz (.lst (S.map fun s => dtC (halo u s))) = .list (S.map fun s => dtD (halo u s)) := by
    rw [fz_lst, List.map_map]
    exact congrArg _ (List.map_congr_left fun s _ => fz_dtC _)
  have m2 : fz (.lst (S.map fun s => shL cD s.cells)) = .list (S.map fun s => .list (s.cells.map cD)) := by
    rw [fz_lst, List.map_map]
    exact congrArg _ (List.map_congr_left fun s _ => fz_shL)
  have m3 : fz (shL Ship.d S) = .list (S.map Ship.d) := fz_shL
  have h1 : ∀ s ∈ S, q__law_halo [u.d, s.d] = .ok (dtC (halo u s)) := fun s hs => halo_q (by rw [sn s hs]; exact hl)
  have h2 : ∀ s ∈ S, q__law_cells [s.d] = .ok (shL cD s.cells) := fun s hs => law_cells_q (by rw [sn s hs]; exact hl)
  have l1 : ∀ g : PyData → Ev.R (Option OV), (∀ s ∈ S, g s.d = .ok (some (dtC (halo u s)))) → lcR g (S.map Ship.d) = .ok (S.map fun s => dtC (halo u s)) := fun g hg => lcR_map _ _ S hg
  have l2 : ∀ g : PyData → Ev.R (Option OV), (∀ s ∈ S, g s.d = .ok (some (shL cD s.cells))) → lcR g (S.map Ship.d) = .ok (S.map fun s => shL cD s.cells) := fun g hg => lcR_map _ _ S hg
  unfold q__law_all_3
  unfold cD at sq ⊢
  get_elem_tactic_trivial
  rw [l1]
  · get_elem_tactic_trivial
    rw [l2]
    · get_elem_tactic_trivial
      rw [forO_g0 (rowD u) (rowD u) (fun h => (S.filter (okNext u h)).map fun s => h ++ [s]) (sizeLine - 1)]
      · decreasing_trivial_pre_omega
      · omega
      · intro h hh a ha
        have hz := sizeLine_eq
        have hlen : h.length ≤ 100 := by
          have := congrArg List.length (hr h hh).1
          rw [List.length_map, List.length_take] at this
          omega
        have := all2_q (x := rowD u h) (acc := a) m3 m1 m2 (hr h hh) sn (by omega) hlen (by omega)
        have hu : unT 2 (rowD u h) = .ok [hD h, halD u h] := rfl
        simp only [hu, O.of_ok, O.bind_next]
        exact this
    · intro s hs
      have := h2 s hs
      get_elem_tactic_trivial
  · intro s hs
    have := h1 s hs
    get_elem_tactic_trivial
theorem enum_map {α : Type} (e : α → PyData) : ∀ (xs : List α) (i : Nat), enumD i (xs.map e) = (xs.zipIdx i).map fun q => .tuple [.int (q.2 : Nat), e q.1]
  | [], _ => rfl
  | x :: xs, i => by rw [List.map_cons, enumD, enum_map e xs (i + 1), List.zipIdx_cons]; rfl
/-- all hidings, as the law reckons them -/
theorem law_all_q {R C : Nat} {u : Rule} {fleet : List Nat} (hR : R ≤ 8) (hC : C ≤ 8) (hf : ∀ l ∈ fleet, l ≤ 1000) (hn : fleet.length ≤ 100) (hb : ∀ k, k ≤ fleet.length → (allH R C u (fleet.take k)).length < sizeLine) :
    q__law_all [cD (R, C), fD fleet, u.d] = .ok (shL hD (allH R C u fleet)) := by
  have key : ∀ (post : List Nat) (pre : List Nat), pre ++ post = fleet → forO ((post.zipIdx pre.length).map fun q => .tuple [.int (q.2 : Nat), .int ((q.1 : Nat) : Int)]) (fun x s => O.bind (O.of (unT 2 x)) fun t => q__law_all_3 (cD (R, C)) (fD fleet) u.d t x s) (shL (rowD u) (allH R C u pre)) = .next (shL (rowD u) (allH R C u fleet)) := by
    intro post
    induction post with
    | nil => intro pre e; rw [List.append_nil] at e; subst e; rfl
    | cons l post ih =>
      intro pre e
      have tk : fleet.take pre.length = pre := by rw [← e]; simp
      have tk1 : fleet.take (pre.length + 1) = pre ++ [l] := by
        have e2 : pre ++ l :: post = (pre ++ [l]) ++ post := by simp
        rw [← e, e2]
        exact List.take_left' (by simp)
      have lt : pre.length < fleet.length := by rw [← e]; simp
      have b0 := hb pre.length (by omega)
      have b1 := hb (pre.length + 1) (by omega)
      rw [tk] at b0
      rw [tk1, allH_snoc] at b1
      have st := all3_q (x := .tuple [.int ((pre.length : Nat) : Int), .int ((l : Nat) : Int)]) hR hC (hf l (by rw [← e]; simp)) (rows := allH R C u pre) (p := pre.length) (fleet := fleet) (u := u) (fun h hh => ⟨by rw [allH_ns pre h hh, tk], lt⟩) hn b1 b0
      have := ih (pre ++ [l]) (by rw [List.append_assoc]; exact e)
      rw [List.length_append, List.length_singleton, allH_snoc] at this
      rw [List.zipIdx_cons, List.map_cons, forO_cons]
      simp only [unT_l2, O.of_ok, O.bind_next, st]
      exact this
  have k0 := key fleet [] rfl
  simp only [List.length_nil] at k0
  have en : enR (.sh (fD fleet)) = .ok ((fleet.zipIdx 0).map fun q => .tuple [.int (q.2 : Nat), .int ((q.1 : Nat) : Int)]) := by
    unfold enR
    rw [fz_sh]
    show Ev.R.ok (enumD 0 (fleet.map fun n => .int (n : Nat))) = _
    rw [enum_map]
  have s0 : shL (rowD u) (allH R C u []) = .lst [.sh (.tuple [.tuple [], .list []])] := rfl
  rw [s0] at k0
  have hbF := hb fleet.length (Nat.le_refl _)
  rw [List.take_length] at hbF
  generalize allH R C u fleet = N at *
  have zz := szR_le (n := N.length) (x := shL hD N) (by omega)
  clear key s0
  unfold q__law_all q__law_all_0
  get_elem_tactic_trivial
  rw [lcR_map (rowD u) fun h => .sh (hD h)]
  · get_elem_tactic_trivial
  · intro h _
    have hu : unT 2 (rowD u h) = .ok [hD h, halD u h] := rfl
    get_elem_tactic_trivial
end Com
namespace Com
open PySem PySem.Spec L2 Ev
open PyProof.Rows hiding St
local macro_rules | `(tactic| decreasing_trivial_pre_omega) => `(tactic| simp only [↓R.bind_ok, ↓R.bind_exc, ↓R.bind_stk, ↓O.bind_next, ↓O.bind_ret, ↓O.bind_exc, ↓O.bind_stk, R.bind_ok, R.bind_exc, R.bind_stk, O.bind_next, O.bind_ret, O.bind_exc, O.bind_stk, O.of_ok, O.of_exc, O.of_stk, O.fin_next, O.fin_ret, O.fin_exc, ofOR_some, ofPR_some, toBR_b, andR_b, orR_b, chR_b, iR_i, noX_ok, szR_lit, Option.isSome_some, Option.isSome_none, mutR_app, mutR_some, ownR_lst, ownR_dk, ownR_dt, itR_tup, itR_list, itR_lst, unT_l2, unT_l3, unT_l4, unT_l5, unT_l6, unT_l7, unL_l2, unL_l3, unL_l4, unL_l5, unL_l6, unL_l7, nd0, nd1, nd2, nd3, nd4, nd5, nd6, par2R_ok, gAdd_int, gII_ok, gI_int, gOrd_int, gEq_int, fz_sh, fz_lst, gNot_b, g1, g1_one, gi_int_none, gi_int_bool, gi_int_int, gi_int_str, gi_int_list, gi_int_tuple, gi_bool_none, gi_bool_bool, gi_bool_int, gi_bool_str, gi_bool_list, gi_bool_tuple, gi_str_none, gi_str_bool, gi_str_int, gi_str_str, gi_str_list, gi_str_tuple, gi_list_none, gi_list_bool, gi_list_int, gi_list_str, gi_list_list, gi_list_tuple, gi_tuple_none, gi_tuple_bool, gi_tuple_int, gi_tuple_str, gi_tuple_list, gi_tuple_tuple, gMax_two, mApp_ok, ownT_lst, dLen_list, dLen_tup, gSub_list, gSub_tup, gSub_lst, atI_l0, atI_l1, atI_l2, atI_l3, atI_l4, atI_l5, atI_l6, Option.map_some, dInt_b, dInt_i, dAbs_i, List.map_cons, List.map_nil, List.cons_append, List.nil_append, if_true, if_false, Bool.false_eq_true, decide_true, decide_false, Bool.false_xor, Bool.true_xor, decide_eq_true_eq, List.length_cons, List.length_nil, nl0, nl1, nl2, nl3, nl4, nl5, nl6, nl7, nl8, nl9, nl10, nl11, nl12, nl13, nl14, nl15, nl16, nl17, nl18, nl19, nl20, Nat.reduceAdd, Nat.reduceSub, Nat.reduceMul, Int.reduceLT, Int.reduceEq, Int.reduceSub, Int.reduceAdd, Int.reduceNeg, Int.reduceLE, Int.reduceMul, Int.reduceToNat, sz_le, sz_lt, Nat.reduceLeDiff, Nat.reduceLT, Bool.not_true, Bool.not_false, Bool.true_and, Bool.and_true, Bool.false_and, Bool.and_false, Bool.true_or, Bool.or_true, Bool.false_or, Bool.or_false, rite_and, rite_or, rb_and, rb_or, Bool.decide_eq_true, Bool.decide_and, Bool.decide_or, gAdd_LL, gAdd_Ll, gAdd_lL, gAdd_lst, gAdd_TT, map_sh_fz, map_fz_shL, List.length_map, gEq_bool, eq_self, forO_nil, forO_cons, lcR_nil, rng1R_ok, rng2R_ok])
local macro_rules | `(tactic| get_elem_tactic_trivial) => `(tactic| simp only [↓R.bind_ok, ↓R.bind_exc, ↓R.bind_stk, ↓O.bind_next, ↓O.bind_ret, ↓O.bind_exc, ↓O.bind_stk, R.bind_ok, R.bind_exc, R.bind_stk, O.bind_next, O.bind_ret, O.bind_exc, O.bind_stk, O.of_ok, O.of_exc, O.of_stk, O.fin_next, O.fin_ret, O.fin_exc, ofOR_some, ofPR_some, toBR_b, andR_b, orR_b, chR_b, iR_i, noX_ok, szR_lit, Option.isSome_some, Option.isSome_none, mutR_app, mutR_some, ownR_lst, ownR_dk, ownR_dt, itR_tup, itR_list, itR_lst, unT_l2, unT_l3, unT_l4, unT_l5, unT_l6, unT_l7, unL_l2, unL_l3, unL_l4, unL_l5, unL_l6, unL_l7, nd0, nd1, nd2, nd3, nd4, nd5, nd6, par2R_ok, gAdd_int, gII_ok, gI_int, gOrd_int, gEq_int, fz_sh, fz_lst, gNot_b, g1, g1_one, gi_int_none, gi_int_bool, gi_int_int, gi_int_str, gi_int_list, gi_int_tuple, gi_bool_none, gi_bool_bool, gi_bool_int, gi_bool_str, gi_bool_list, gi_bool_tuple, gi_str_none, gi_str_bool, gi_str_int, gi_str_str, gi_str_list, gi_str_tuple, gi_list_none, gi_list_bool, gi_list_int, gi_list_str, gi_list_list, gi_list_tuple, gi_tuple_none, gi_tuple_bool, gi_tuple_int, gi_tuple_str, gi_tuple_list, gi_tuple_tuple, gMax_two, mApp_ok, ownT_lst, dLen_list, dLen_tup, gSub_list, gSub_tup, gSub_lst, atI_l0, atI_l1, atI_l2, atI_l3, atI_l4, atI_l5, atI_l6, Option.map_some, dInt_b, dInt_i, dAbs_i, List.map_cons, List.map_nil, List.cons_append, List.nil_append, if_true, if_false, Bool.false_eq_true, decide_true, decide_false, Bool.false_xor, Bool.true_xor, decide_eq_true_eq, List.length_cons, List.length_nil, nl0, nl1, nl2, nl3, nl4, nl5, nl6, nl7, nl8, nl9, nl10, nl11, nl12, nl13, nl14, nl15, nl16, nl17, nl18, nl19, nl20, Nat.reduceAdd, Nat.reduceSub, Nat.reduceMul, Int.reduceLT, Int.reduceEq, Int.reduceSub, Int.reduceAdd, Int.reduceNeg, Int.reduceLE, Int.reduceMul, Int.reduceToNat, sz_le, sz_lt, Nat.reduceLeDiff, Nat.reduceLT, Bool.not_true, Bool.not_false, Bool.true_and, Bool.and_true, Bool.false_and, Bool.and_false, Bool.true_or, Bool.or_true, Bool.false_or, Bool.or_false, rite_and, rite_or, rb_and, rb_or, Bool.decide_eq_true, Bool.decide_and, Bool.decide_or, gAdd_LL, gAdd_Ll, gAdd_lL, gAdd_lst, gAdd_TT, map_sh_fz, map_fz_shL, List.length_map, gEq_bool, eq_self, forO_nil, forO_cons, lcR_nil, rng1R_ok, rng2R_ok, *])
/-! ### dicts with tuples as keys -/
structure KeyE {α : Type} (k : α → List Key) (d : α → PyData) : Prop where
  inj : ∀ x y, k x = k y → x = y
  asd : ∀ x, asDK (d x) = some (.inr (k x))
  fine : ∀ x, fineK (.inr (k x)) = true
  ktd : ∀ x, ktD (k x) = d x
section
variable {α : Type} [DecidableEq α] {k : α → List Key} {d : α → PyData}
def dA (k : α → List Key) (l : List (α × OV)) : OV := .dt (l.map fun p => (k p.1, p.2))
def putA (l : List (α × OV)) (x : α) (o : OV) : List (α × OV) := match l with
  | [] => [(x, o)]
  | p :: l => if p.1 = x then (x, o) :: l else p :: putA l x o
def lookA (l : List (α × OV)) (x : α) : Option OV := match l with
  | [] => none
  | p :: l => if p.1 = x then some p.2 else lookA l x
theorem put_dA (h : KeyE k d) : ∀ (l : List (α × OV)) (x : α) (o : OV), putG (l.map fun p => (k p.1, p.2)) (k x) o = (putA l x o).map fun p => (k p.1, p.2)
  | [], x, o => rfl
  | p :: l, x, o => by
    rw [List.map_cons, putG, putA]
    by_cases e : p.1 = x
    · subst e; simp
    · have ne : k p.1 ≠ k x := fun q => e (h.inj _ _ q)
      rw [if_neg ne, if_neg e, put_dA h l x o]; rfl
theorem find_dA (h : KeyE k d) : ∀ (l : List (α × OV)) (x : α), ((l.map fun p => (k p.1, p.2)).find? fun p => decide (p.1 = k x)).map (·.2) = lookA l x
  | [], _ => rfl
  | p :: l, x => by
    rw [List.map_cons, List.find?_cons, lookA]
    by_cases e : p.1 = x
    · subst e; simp
    · have ne : k p.1 ≠ k x := fun q => e (h.inj _ _ q)
      rw [if_neg e]
      simp only [decide_eq_false ne]
      exact find_dA h l x
theorem set_dA (h : KeyE k d) {l : List (α × OV)} {x : α} {o : OV} (hl : l.length < sizeLine) : setR (dA k l) (.sh (d x)) o = .ok (dA k (putA l x o)) := by
  have e : setO (dA k l) (d x) o = some (dA k (putA l x o)) := by
    unfold setO dA
    simp only [h.asd, List.length_map]
    rw [if_pos ⟨hl, h.fine x⟩, put_dA h]
  unfold setR
  rw [fz_sh, e]
theorem sub_dA (h : KeyE k d) {l : List (α × OV)} {x : α} {o : OV} (hx : lookA l x = some o) : subR (dA k l) (.sh (d x)) = .ok o := by
  have e : subO (dA k l) (d x) = some o := by
    unfold subO dA
    simp only [h.asd]
    rw [if_pos (h.fine x), find_dA h, hx]
  unfold subR
  rw [fz_sh, e]
theorem set2_dA (h : KeyE k d) {l m : List (α × OV)} {x y : α} {o : OV} (hm : m.length < sizeLine) : setR2 (dA k l) (.sh (d x)) (dA k m) (.sh (d y)) o = .ok (dA k (putA l x (dA k (putA m y o)))) := by
  have e : setO (dA k m) (d y) o = some (dA k (putA m y o)) := by
    unfold setO dA
    simp only [h.asd, List.length_map]
    rw [if_pos ⟨hm, h.fine y⟩, put_dA h]
  unfold setR2
  rw [fz_sh, fz_sh, e]
  simp only
  have e2 : putO (dA k l) (d x) (dA k (putA m y o)) = dA k (putA l x (dA k (putA m y o))) := by
    unfold putO
    show (match asDK (d x) with
      | some (.inr q) => OV.dt (putG (l.map fun p : α × OV => (k p.1, p.2)) q (dA k (putA m y o)))
      | _ => dA k l) = _
    simp only [h.asd]
    rw [put_dA h]; rfl
  rw [e2]
theorem fz_dA (h : KeyE k d) (l : List (α × OV)) : fz (dA k l) = .dict ((.none, .none) :: l.map fun p => (d p.1, fz p.2)) := by
  unfold dA
  rw [fz, fzt_eq, List.map_map]
  refine congrArg _ (congrArg _ (List.map_congr_left fun p _ => ?_))
  simp only [Function.comp, h.ktd]
theorem look_fz (h : KeyE k d) (l : List (α × OV)) (x : α) : dLook ((.none, .none) :: l.map fun p => (d p.1, fz p.2)) (d x) = (lookA l x).map fz := by
  unfold dLook
  rw [h.asd]
  simp only [List.find?_cons]
  have e : decide (asDK PyData.none = some (Sum.inr (k x))) = false := rfl
  rw [e]
  simp only
  induction l with
  | nil => rfl
  | cons p l ih =>
    rw [List.map_cons, List.find?_cons, lookA]
    by_cases e : p.1 = x
    · subst e; simp [h.asd]
    · have ne : ¬ (asDK (d p.1) = some (.inr (k x))) := fun q => e (h.inj _ _ (by rw [h.asd] at q; injection q with q; injection q))
      rw [decide_eq_false ne, if_neg e]
      exact ih
theorem okK_fz (h : KeyE k d) {l : List (PyData × PyData)} {x : α} : okK ((.none, .none) :: l) (d x) = true := by
  unfold okK
  rw [h.asd]
  show (true && fineK (.inr (k x))) = true
  rw [h.fine]; rfl
theorem gSub_dA (h : KeyE k d) {l : List (α × OV)} {x : α} : Ev.gSub (.sh (fz (dA k l))) (.sh (d x)) = (lookA l x).map fun o => .sh (fz o) := by
  rw [fz_dA h]
  unfold Ev.gSub
  simp only [fz_sh]
  have : ∀ z : PyData, okK ((.none, .none) :: l.map fun p => (d p.1, fz p.2)) (d x) = true := fun _ => okK_fz h
  rw [if_pos (okK_fz h), look_fz h, Option.map_map]
  rfl
theorem gIn_dA (h : KeyE k d) {neg : Bool} {l : List (α × OV)} {x : α} : Ev.gIn neg (.sh (d x)) (.sh (fz (dA k l))) = some (.sh (.bool (neg ^^ (lookA l x).isSome))) := by
  rw [fz_dA h]
  unfold Ev.gIn
  simp only [fz_sh]
  rw [if_pos (okK_fz h), look_fz h, Option.isSome_map]
theorem gInP_dA (h : KeyE k d) {neg : Bool} {l : List (α × OV)} {x : α} : gInP neg (d x) (fz (dA k l)) = some (.bool (neg ^^ (lookA l x).isSome)) := by
  rw [fz_dA h]
  unfold gInP
  simp only
  rw [if_pos (okK_fz h), look_fz h, Option.isSome_map]
theorem putA_new : ∀ {l : List (α × OV)} {x : α} {o : OV}, lookA l x = none → putA l x o = l ++ [(x, o)]
  | [], _, _, _ => rfl
  | p :: l, x, o, h => by
    rw [lookA] at h
    by_cases e : p.1 = x
    · rw [if_pos e] at h; cases h
    · rw [if_neg e] at h
      rw [putA, if_neg e, putA_new h]; rfl
theorem putA_last : ∀ {l : List (α × OV)} {x : α} {o o' : OV}, lookA l x = none → putA (l ++ [(x, o)]) x o' = l ++ [(x, o')]
  | [], _, _, _, _ => by simp [putA]
  | p :: l, x, o, o', h => by
    rw [lookA] at h
    by_cases e : p.1 = x
    · rw [if_pos e] at h; cases h
    · rw [if_neg e] at h
      rw [List.cons_append, putA, if_neg e, putA_last h]; rfl
theorem lookA_last : ∀ {l : List (α × OV)} {x : α} {o : OV}, lookA l x = none → lookA (l ++ [(x, o)]) x = some o
  | [], _, _, _ => by simp [lookA]
  | p :: l, x, o, h => by
    rw [lookA] at h
    by_cases e : p.1 = x
    · rw [if_pos e] at h; cases h
    · rw [if_neg e] at h
      rw [List.cons_append, lookA, if_neg e, lookA_last h]
theorem lookA_map {f : α → OV} : ∀ {l : List α} {x : α}, lookA (l.map fun a => (a, f a)) x = if x ∈ l then some (f x) else none
  | [], _ => rfl
  | a :: l, x => by
    rw [List.map_cons, lookA, lookA_map]
    by_cases e : a = x
    · subst e; simp
    · have e' : ¬ x = a := fun z => e z.symm
      simp [e, e']
end
def sK (s : Ship) : List Key := [.inl s.r, .inl s.c, .inr (wayS s.al), .inl (s.n : Int)]
theorem keyShip : KeyE sK Ship.d where
  inj x y h := by
    obtain ⟨a, b, c, n⟩ := x
    obtain ⟨a', b', c', n'⟩ := y
    unfold sK at h
    injection h with h1 h
    injection h with h2 h
    injection h with h3 h
    injection h with h4 _
    injection h1 with h1
    injection h2 with h2
    injection h3 with h3
    injection h4 with h4
    have h1 : a = a' := h1
    have h2 : b = b' := h2
    have h3 : wayS c = wayS c' := h3
    have h4 : (n : Int) = n' := h4
    have : c = c' := by
      have := way_along c
      rw [h3, way_along] at this
      exact this.symm
    subst h1 h2 this
    have : n = n' := by omega
    subst this
    rfl
  asd _ := rfl
  fine _ := rfl
  ktd _ := rfl
/-! ### the ships that don't keep the rule with a ship -/
def inner (u : Rule) (S : List Ship) (o : Ship) : OV := dA sK ((S.filter fun s => !keepB u o s).map fun s => (s, .sh (.bool true)))
def nearO (u : Rule) (S N : List Ship) : OV := dA sK (N.map fun o => (o, inner u S o))
theorem near1_q {u : Rule} {o s : Ship} {l : List (Ship × OV)} {P : List Ship} (ho : o.n ≤ 1000) (hs : s.n ≤ 1000) (hl : lookA l o = none) (hP : P.length < sizeLine) (hn : s ∉ P) :
    q_near_ships_1 u.d o.d s.d (dA sK (l ++ [(o, dA sK (P.map fun s => (s, .sh (.bool true))))])) = .next (dA sK (l ++ [(o, dA sK ((P ++ if keepB u o s = true then [] else [s]).map fun s => (s, .sh (.bool true))))])) := by
  have kq := keep_q (u := u) ho hs
  have e1 := sub_dA keyShip (lookA_last (o := dA sK (P.map fun s => (s, .sh (.bool true)))) hl)
  have e2 := set2_dA keyShip (l := l ++ [(o, dA sK (P.map fun s => (s, .sh (.bool true))))]) (x := o) (m := P.map fun s => (s, .sh (.bool true))) (y := s) (o := .sh (.bool true)) (by rw [List.length_map]; exact hP)
  have hl2 : lookA (P.map fun s => (s, OV.sh (.bool true))) s = none := by rw [lookA_map]; exact if_neg hn
  rw [putA_new hl2, putA_last hl] at e2
  unfold q_near_ships_1
  cases hk : keepB u o s with
  | true => rw [hk] at kq; clear e1 e2; get_elem_tactic_trivial; simp
  | false => rw [hk] at kq; get_elem_tactic_trivial; simp
theorem near2_q {u : Rule} {S N : List Ship} {o : Ship} (ho : o.n ≤ 1000) (hS : ∀ s ∈ S, s.n ≤ 1000) (hd : S.Nodup) (hl : S.length < sizeLine) (hN : N.length < sizeLine) :
    q_near_ships_2 u.d (.list (S.map Ship.d)) o.d (nearO u S N) = .next (nearO u S (if o ∈ N then N else N ++ [o])) := by
  have gi := gInP_dA keyShip (neg := true) (l := N.map fun o => (o, inner u S o)) (x := o)
  rw [lookA_map] at gi
  have hc : fz (nearO u S N) = fz (dA sK (N.map fun o => (o, inner u S o))) := rfl
  have key : ∀ (post pre : List Ship), (∀ s ∈ pre, s ∈ S) → pre ++ post = S → lookA (N.map fun o => (o, inner u S o)) o = none →
      forO (post.map Ship.d) (fun x s => q_near_ships_1 u.d o.d x s) (dA sK ((N.map fun o => (o, inner u S o)) ++ [(o, dA sK ((pre.filter fun s => !keepB u o s).map fun s => (s, .sh (.bool true))))])) = .next (dA sK ((N.map fun o => (o, inner u S o)) ++ [(o, inner u S o)])) := by
    intro post
    induction post with
    | nil => intro pre _ e _; rw [List.append_nil] at e; subst e; rfl
    | cons s post ih =>
      intro pre hp e hlk
      have hsS : s ∈ S := by rw [← e]; simp
      have hnp : s ∉ pre := by
        rw [← e] at hd
        have := (List.nodup_append.mp hd).2.2
        intro hm
        exact this s hm s List.mem_cons_self rfl
      have st := near1_q (u := u) (o := o) (s := s) (l := N.map fun o => (o, inner u S o)) (P := pre.filter fun s => !keepB u o s) ho (hS s hsS) hlk (by
        have h1 := List.length_filter_le (fun s => !keepB u o s) pre
        have h2 : pre.length ≤ S.length := by rw [← e]; simp
        omega) (fun hm => hnp (List.mem_filter.mp hm).1)
      have ef : (pre.filter fun s => !keepB u o s) ++ (if keepB u o s = true then [] else [s]) = (pre ++ [s]).filter fun s => !keepB u o s := by
        rw [List.filter_append]
        cases hk : keepB u o s <;> simp [hk]
      rw [ef] at st
      rw [List.map_cons, forO_cons, st, O.bind_next]
      exact ih (pre ++ [s]) (fun x hx => by
        rcases List.mem_append.mp hx with h | h
        · exact hp x h
        · rw [List.mem_singleton.mp h]; exact hsS) (by rw [List.append_assoc]; exact e) hlk
  unfold q_near_ships_2
  by_cases hm : o ∈ N
  · rw [if_pos hm] at gi ⊢
    clear key
    get_elem_tactic_trivial
  · rw [if_neg hm] at gi ⊢
    have hlk : lookA (N.map fun o => (o, inner u S o)) o = none := by rw [lookA_map]; exact if_neg hm
    have sx := set_dA keyShip (l := N.map fun o => (o, inner u S o)) (x := o) (o := .dt []) (by rw [List.length_map]; exact hN)
    rw [putA_new hlk] at sx
    have k0 := key S [] (fun _ h => by cases h) rfl hlk
    have e0 : (dA sK ((([] : List Ship).filter fun s => !keepB u o s).map fun s => (s, OV.sh (.bool true)))) = .dt [] := rfl
    rw [e0] at k0
    have ef : nearO u S (N ++ [o]) = dA sK ((N.map fun o => (o, inner u S o)) ++ [(o, inner u S o)]) := by
      unfold nearO
      rw [List.map_append]; rfl
    rw [ef, hc]
    clear key e0
    unfold nearO
    get_elem_tactic_trivial
theorem addAll_mem : ∀ (M N : List Ship) (x : Ship), x ∈ M.foldl (fun N o => if o ∈ N then N else N ++ [o]) N ↔ x ∈ N ∨ x ∈ M
  | [], N, x => by simp
  | o :: M, N, x => by
    rw [List.foldl_cons, addAll_mem M]
    by_cases h : o ∈ N
    · rw [if_pos h, List.mem_cons]
      constructor
      · rintro (h | h)
        · exact .inl h
        · exact .inr (.inr h)
      · rintro (h' | rfl | h')
        · exact .inl h'
        · exact .inl h
        · exact .inr h'
    · rw [if_neg h]; simp [or_assoc]
theorem addAll_len : ∀ (M N : List Ship), (M.foldl (fun N o => if o ∈ N then N else N ++ [o]) N).length ≤ N.length + M.length
  | [], N => Nat.le_refl _
  | o :: M, N => by
    rw [List.foldl_cons, List.length_cons]
    have := addAll_len M (if o ∈ N then N else N ++ [o])
    by_cases h : o ∈ N
    · rw [if_pos h] at this ⊢; omega
    · rw [if_neg h] at this ⊢; rw [List.length_append, List.length_singleton] at this; omega
def addS (N : List Ship) (M : List Ship) : List Ship := M.foldl (fun N o => if o ∈ N then N else N ++ [o]) N
def nears (R C : Nat) (N : List Ship) (ls : List Nat) : List Ship := ls.foldl (fun N l => addS N (ships R C l)) N
theorem nears_mem {R C : Nat} : ∀ (ls : List Nat) (N : List Ship) (x : Ship), x ∈ nears R C N ls ↔ x ∈ N ∨ ∃ l ∈ ls, x ∈ ships R C l
  | [], N, x => by simp [nears]
  | l :: ls, N, x => by
    show x ∈ nears R C (addS N (ships R C l)) ls ↔ _
    rw [nears_mem ls, show x ∈ addS N (ships R C l) ↔ x ∈ N ∨ x ∈ ships R C l from addAll_mem _ _ _]
    simp [or_assoc]
theorem nears_len {R C : Nat} : ∀ (ls : List Nat) (N : List Ship), (nears R C N ls).length ≤ N.length + ls.length * (R * (C * 2))
  | [], N => by simp [nears]
  | l :: ls, N => by
    show (nears R C (addS N (ships R C l)) ls).length ≤ _
    have h1 := nears_len (R := R) (C := C) ls (addS N (ships R C l))
    have h2 : (addS N (ships R C l)).length ≤ N.length + (ships R C l).length := addAll_len _ _
    have h3 := ships_len (R := R) (C := C) (l := l)
    rw [List.length_cons, Nat.succ_mul]
    omega
theorem near3_q {R C : Nat} {u : Rule} {S N : List Ship} {l : Nat} (hl1 : 1 ≤ l) (hl : l ≤ 1000) (hR : R ≤ 8) (hC : C ≤ 8) (hS : ∀ s ∈ S, s.n ≤ 1000) (hd : S.Nodup) (hSl : S.length < sizeLine) (hN : N.length + R * (C * 2) < sizeLine) :
    q_near_ships_3 u.d (.list (S.map Ship.d)) (cD (R, C)) (.int (l : Nat)) (nearO u S N) = .next (nearO u S (addS N (ships R C l))) := by
  have sq := ships_q (R := R) (C := C) hl1 hR hC
  have sl := ships_len (R := R) (C := C) (l := l)
  have sn : ∀ s ∈ ships R C l, s.n ≤ 1000 := fun s hs => by rw [mem_shipsN hs]; exact hl
  generalize ships R C l = M at *
  have key : ∀ (M N : List Ship), (∀ s ∈ M, s.n ≤ 1000) → N.length + M.length < sizeLine → forO (M.map Ship.d) (fun x s => q_near_ships_2 u.d (.list (S.map Ship.d)) x s) (nearO u S N) = .next (nearO u S (addS N M)) := by
    intro M
    induction M with
    | nil => intro N _ _; rfl
    | cons o M ih =>
      intro N hM hz
      rw [List.length_cons] at hz
      rw [List.map_cons, forO_cons, near2_q (hM o List.mem_cons_self) hS hd hSl (by omega), O.bind_next]
      exact ih _ (fun s hs => hM s (List.mem_cons_of_mem _ hs)) (by
        by_cases h : o ∈ N
        · rw [if_pos h]; omega
        · rw [if_neg h, List.length_append, List.length_singleton]; omega)
  have k := key M N sn (by omega)
  clear key
  unfold q_near_ships_3
  get_elem_tactic_trivial
theorem near_ships_q {R C : Nat} {u : Rule} {S : List Ship} {ls : List Nat} (hls : ∀ l ∈ ls, 1 ≤ l ∧ l ≤ 1000) (hR : R ≤ 8) (hC : C ≤ 8) (hS : ∀ s ∈ S, s.n ≤ 1000) (hd : S.Nodup) (hSl : S.length < sizeLine) (hn : ls.length ≤ 100) :
    q_near_ships [u.d, .list (S.map Ship.d), cD (R, C), .tuple (ls.map fun n => .int (n : Nat))] = .ok (nearO u S (nears R C [] ls)) := by
  have hb : R * (C * 2) ≤ 8 * 16 := Nat.mul_le_mul (by omega) (by omega)
  have hz := sizeLine_eq
  have key : ∀ (ls : List Nat) (N : List Ship), (∀ l ∈ ls, 1 ≤ l ∧ l ≤ 1000) → N.length + (ls.length + 1) * 128 < sizeLine → forO (ls.map fun n => .int ((n : Nat) : Int)) (fun x s => q_near_ships_3 u.d (.list (S.map Ship.d)) (cD (R, C)) x s) (nearO u S N) = .next (nearO u S (nears R C N ls)) := by
    intro ls
    induction ls with
    | nil => intro N _ _; rfl
    | cons l ls ih =>
      intro N h1 h2
      rw [List.length_cons] at h2
      have sl := ships_len (R := R) (C := C) (l := l)
      have al : (addS N (ships R C l)).length ≤ N.length + (ships R C l).length := addAll_len _ _
      rw [List.map_cons, forO_cons, near3_q (h1 l List.mem_cons_self).1 (h1 l List.mem_cons_self).2 hR hC hS hd hSl (by omega), O.bind_next]
      exact ih _ (fun x hx => h1 x (List.mem_cons_of_mem _ hx)) (by omega)
  have k := key ls [] hls (by rw [List.length_nil]; omega)
  have e0 : nearO u S [] = .dt [] := rfl
  rw [e0] at k
  clear key e0
  unfold q_near_ships q_near_ships_0
  get_elem_tactic_trivial
/-- a ship among those that don't keep the rule with another -/
theorem near_ask {R C : Nat} {u : Rule} {S : List Ship} {ls : List Nat} {o : Ship} (ho : ∃ l ∈ ls, o ∈ ships R C l) : Ev.gSub (.sh (fz (nearO u S (nears R C [] ls)))) (.sh o.d) = some (.sh (fz (inner u S o))) := by
  unfold nearO
  rw [gSub_dA keyShip, lookA_map, if_pos ((nears_mem ls [] o).mpr (.inr ho))]
  rfl
theorem inner_ask {u : Rule} {S : List Ship} {o s : Ship} (hs : s ∈ S) : Ev.gIn false (.sh s.d) (.sh (fz (inner u S o))) = some (.sh (.bool (!keepB u o s))) := by
  unfold inner
  rw [gIn_dA keyShip, lookA_map, Bool.false_xor]
  congr 3
  by_cases h : keepB u o s = true
  · rw [if_neg (by simp [h]), h]; rfl
  · have h' : keepB u o s = false := by simpa using h
    rw [if_pos (by simp [hs, h']), h']; rfl
end Com
namespace Com
open PySem PySem.Spec L2 Ev
open PyProof.Rows hiding St
local macro_rules | `(tactic| decreasing_trivial_pre_omega) => `(tactic| simp only [↓R.bind_ok, ↓R.bind_exc, ↓R.bind_stk, ↓O.bind_next, ↓O.bind_ret, ↓O.bind_exc, ↓O.bind_stk, R.bind_ok, R.bind_exc, R.bind_stk, O.bind_next, O.bind_ret, O.bind_exc, O.bind_stk, O.of_ok, O.of_exc, O.of_stk, O.fin_next, O.fin_ret, O.fin_exc, ofOR_some, ofPR_some, toBR_b, andR_b, orR_b, chR_b, iR_i, noX_ok, szR_lit, Option.isSome_some, Option.isSome_none, mutR_app, mutR_some, ownR_lst, ownR_dk, ownR_dt, itR_tup, itR_list, itR_lst, unT_l2, unT_l3, unT_l4, unT_l5, unT_l6, unT_l7, unL_l2, unL_l3, unL_l4, unL_l5, unL_l6, unL_l7, nd0, nd1, nd2, nd3, nd4, nd5, nd6, par2R_ok, gAdd_int, gII_ok, gI_int, gOrd_int, gEq_int, fz_sh, fz_lst, gNot_b, g1, g1_one, gi_int_none, gi_int_bool, gi_int_int, gi_int_str, gi_int_list, gi_int_tuple, gi_bool_none, gi_bool_bool, gi_bool_int, gi_bool_str, gi_bool_list, gi_bool_tuple, gi_str_none, gi_str_bool, gi_str_int, gi_str_str, gi_str_list, gi_str_tuple, gi_list_none, gi_list_bool, gi_list_int, gi_list_str, gi_list_list, gi_list_tuple, gi_tuple_none, gi_tuple_bool, gi_tuple_int, gi_tuple_str, gi_tuple_list, gi_tuple_tuple, gMax_two, mApp_ok, ownT_lst, dLen_list, dLen_tup, gSub_list, gSub_tup, gSub_lst, atI_l0, atI_l1, atI_l2, atI_l3, atI_l4, atI_l5, atI_l6, Option.map_some, dInt_b, dInt_i, dAbs_i, List.map_cons, List.map_nil, List.cons_append, List.nil_append, if_true, if_false, Bool.false_eq_true, decide_true, decide_false, Bool.false_xor, Bool.true_xor, decide_eq_true_eq, List.length_cons, List.length_nil, nl0, nl1, nl2, nl3, nl4, nl5, nl6, nl7, nl8, nl9, nl10, nl11, nl12, nl13, nl14, nl15, nl16, nl17, nl18, nl19, nl20, Nat.reduceAdd, Nat.reduceSub, Nat.reduceMul, Int.reduceLT, Int.reduceEq, Int.reduceSub, Int.reduceAdd, Int.reduceNeg, Int.reduceLE, Int.reduceMul, Int.reduceToNat, sz_le, sz_lt, Nat.reduceLeDiff, Nat.reduceLT, Bool.not_true, Bool.not_false, Bool.true_and, Bool.and_true, Bool.false_and, Bool.and_false, Bool.true_or, Bool.or_true, Bool.false_or, Bool.or_false, rite_and, rite_or, rb_and, rb_or, Bool.decide_eq_true, Bool.decide_and, Bool.decide_or, gAdd_LL, gAdd_Ll, gAdd_lL, gAdd_lst, gAdd_TT, map_sh_fz, map_fz_shL, List.length_map, gEq_bool, eq_self, forO_nil, forO_cons, lcR_nil, rng1R_ok, rng2R_ok])
local macro_rules | `(tactic| get_elem_tactic_trivial) => `(tactic| simp only [↓R.bind_ok, ↓R.bind_exc, ↓R.bind_stk, ↓O.bind_next, ↓O.bind_ret, ↓O.bind_exc, ↓O.bind_stk, R.bind_ok, R.bind_exc, R.bind_stk, O.bind_next, O.bind_ret, O.bind_exc, O.bind_stk, O.of_ok, O.of_exc, O.of_stk, O.fin_next, O.fin_ret, O.fin_exc, ofOR_some, ofPR_some, toBR_b, andR_b, orR_b, chR_b, iR_i, noX_ok, szR_lit, Option.isSome_some, Option.isSome_none, mutR_app, mutR_some, ownR_lst, ownR_dk, ownR_dt, itR_tup, itR_list, itR_lst, unT_l2, unT_l3, unT_l4, unT_l5, unT_l6, unT_l7, unL_l2, unL_l3, unL_l4, unL_l5, unL_l6, unL_l7, nd0, nd1, nd2, nd3, nd4, nd5, nd6, par2R_ok, gAdd_int, gII_ok, gI_int, gOrd_int, gEq_int, fz_sh, fz_lst, gNot_b, g1, g1_one, gi_int_none, gi_int_bool, gi_int_int, gi_int_str, gi_int_list, gi_int_tuple, gi_bool_none, gi_bool_bool, gi_bool_int, gi_bool_str, gi_bool_list, gi_bool_tuple, gi_str_none, gi_str_bool, gi_str_int, gi_str_str, gi_str_list, gi_str_tuple, gi_list_none, gi_list_bool, gi_list_int, gi_list_str, gi_list_list, gi_list_tuple, gi_tuple_none, gi_tuple_bool, gi_tuple_int, gi_tuple_str, gi_tuple_list, gi_tuple_tuple, gMax_two, mApp_ok, ownT_lst, dLen_list, dLen_tup, gSub_list, gSub_tup, gSub_lst, atI_l0, atI_l1, atI_l2, atI_l3, atI_l4, atI_l5, atI_l6, Option.map_some, dInt_b, dInt_i, dAbs_i, List.map_cons, List.map_nil, List.cons_append, List.nil_append, if_true, if_false, Bool.false_eq_true, decide_true, decide_false, Bool.false_xor, Bool.true_xor, decide_eq_true_eq, List.length_cons, List.length_nil, nl0, nl1, nl2, nl3, nl4, nl5, nl6, nl7, nl8, nl9, nl10, nl11, nl12, nl13, nl14, nl15, nl16, nl17, nl18, nl19, nl20, Nat.reduceAdd, Nat.reduceSub, Nat.reduceMul, Int.reduceLT, Int.reduceEq, Int.reduceSub, Int.reduceAdd, Int.reduceNeg, Int.reduceLE, Int.reduceMul, Int.reduceToNat, sz_le, sz_lt, Nat.reduceLeDiff, Nat.reduceLT, Bool.not_true, Bool.not_false, Bool.true_and, Bool.and_true, Bool.false_and, Bool.and_false, Bool.true_or, Bool.or_true, Bool.false_or, Bool.or_false, rite_and, rite_or, rb_and, rb_or, Bool.decide_eq_true, Bool.decide_and, Bool.decide_or, gAdd_LL, gAdd_Ll, gAdd_lL, gAdd_lst, gAdd_TT, map_sh_fz, map_fz_shL, List.length_map, gEq_bool, eq_self, forO_nil, forO_cons, lcR_nil, rng1R_ok, rng2R_ok, *])
theorem allH_mem {R C : Nat} {u : Rule} : ∀ (fleet : List Nat) (h : Hid), h ∈ allH R C u fleet → ∀ t ∈ h, ∃ l ∈ fleet, t ∈ ships R C l := by
  suffices hs : ∀ n (f : List Nat), f.length = n → ∀ h, h ∈ allH R C u f → ∀ t ∈ h, ∃ l ∈ f, t ∈ ships R C l from fun f h hh => hs _ f rfl h hh
  intro n
  induction n with
  | zero => intro f hf h hh; have := List.eq_nil_of_length_eq_zero hf; subst this; simp [allH] at hh; subst hh; intro t ht; cases ht
  | succ n ih =>
    intro f hf h hh
    have hne : f ≠ [] := fun e => by rw [e] at hf; cases hf
    obtain ⟨g, l, rfl⟩ : ∃ g l, f = g ++ [l] := ⟨f.dropLast, f.getLast hne, (List.dropLast_concat_getLast hne).symm⟩
    rw [List.length_append, List.length_singleton] at hf
    rw [allH_snoc] at hh
    unfold extH at hh
    simp only [List.mem_flatMap, List.mem_map, List.mem_filter] at hh
    obtain ⟨h0, hh0, s, ⟨hs, _⟩, rfl⟩ := hh
    intro t ht
    rcases List.mem_append.mp ht with ht | ht
    · obtain ⟨l', h1, h2⟩ := ih g (by omega) h0 hh0 t ht
      exact ⟨l', List.mem_append_left _ h1, h2⟩
    · rw [List.mem_singleton.mp ht]
      exact ⟨l, by simp, hs⟩
theorem ships_nodup (R C l : Nat) : (ships R C l).Nodup := by
  refine (ships_lt R C l).imp fun {x y} h e => ?_
  subst e
  have := lt_asymm h
  rw [h] at this; cases this
theorem gGt_ship {s t : Ship} : gGt (.sh s.d) (.sh t.d) = some (.sh (.bool (t.lt s))) := by
  have a1 := EqE.ship.shaped (by decide) s
  have a2 := EqE.ship.shaped (by decide) t
  have e : ∀ (x y : Ship), gGt (.sh x.d) (.sh y.d) = if PySem.W.alike x.d y.d = true ∧ SeqAt.shaped x.d = true ∧ SeqAt.shaped y.d = true then some (.sh (.bool (PySem.W.dataLt y.d x.d))) else none := fun x y => by
    unfold gGt gOrd Ship.d
    simp only [fz_sh]
  rw [e, if_pos ⟨ship_alike s t, a1, a2⟩, ship_lt]
/-- one ship after a row -/
theorem hid1_q {R C : Nat} {u : Rule} {S : List Ship} {ls : List Nat} {h : Hid} {s : Ship} {acc : List Hid} {least : Option Ship} (hS : s ∈ S) (hm : ∀ t ∈ h, ∃ l ∈ ls, t ∈ ships R C l) (ha : acc.length < sizeLine) (hl : h.length ≤ 100) :
    q_all_hidings_1 (nearO u S (nears R C [] ls)) (hD h) (.sh (match least with | none => .none | some t => t.d)) s.d (shL hD acc) = .next (shL hD (acc ++ if ((match least with | none => true | some t => t.lt s) && h.all fun t => keepB u t s) = true then [h ++ [s]] else [])) := by
  have g1 : gAdd (.sh (hD h)) (.sh (.tuple [s.d])) = some (.sh (hD (h ++ [s]))) := by
    unfold hD
    rw [gAdd_TT (by rw [List.length_map, List.length_singleton, sizeLine_eq]; omega), List.map_append]; rfl
  have ny : (h.any fun t => !keepB u t s) = !(h.all fun t => keepB u t s) := by
    induction h with
    | nil => rfl
    | cons t h ih =>
      rw [List.any_cons, List.all_cons, ih (fun t ht => hm t (List.mem_cons_of_mem _ ht)) (by rw [List.length_cons] at hl; omega) (by
        unfold hD
        rw [gAdd_TT (by rw [List.length_map, List.length_singleton, sizeLine_eq]; rw [List.length_cons] at hl; omega), List.map_append]; rfl)]
      cases keepB u t s <;> rfl
  have an := any_q (fun t => !keepB u t s) h
  rw [ny] at an
  have zz := szR_le (n := h.length) (x := OV.lst (h.map fun t => .sh (.bool (!keepB u t s)))) (by rw [sizeLine_eq]; omega)
  have it : itR (.sh (hD h)) = .ok (h.map Ship.d) := by unfold hD; exact itR_tup
  have lc : ∀ g : PyData → Ev.R (Option OV), (∀ t ∈ h, g t.d = .ok (some (.sh (.bool (!keepB u t s))))) → lcR g (h.map Ship.d) = .ok (h.map fun t => .sh (.bool (!keepB u t s))) := fun g hg => lcR_map _ _ h hg
  have mf := map_fz_shL (e := fun t => PyData.bool (!keepB u t s)) (xs := h)
  have ask : ∀ t ∈ h, Ev.gSub (.sh (fz (nearO u S (nears R C [] ls)))) (.sh t.d) = some (.sh (fz (inner u S t))) := fun t ht => near_ask (hm t ht)
  have ask2 : ∀ t, Ev.gIn false (.sh s.d) (.sh (fz (inner u S t))) = some (.sh (.bool (!keepB u t s))) := fun t => inner_ask hS
  generalize h.all (fun t => keepB u t s) = K at an ⊢
  clear ny
  have step : ∀ g : PyData → Ev.R (Option OV), (∀ d, g d = (((ofOR (Ev.gSub (.sh (fz (nearO u S (nears R C [] ls)))) (.sh d))).bind fun e => ofOR (Ev.gIn false (.sh s.d) e)).bind fun o => .ok (some o))) → lcR g (h.map Ship.d) = .ok (h.map fun t => .sh (.bool (!keepB u t s))) := fun g hg => lc g fun t ht => by
    have := ask t ht
    have := ask2 t
    rw [hg]
    get_elem_tactic_trivial
  unfold q_all_hidings_1
  cases least with
  | none =>
    have gi : gIs false (.sh .none) = some (.sh (.bool true)) := rfl
    clear ask ask2 lc
    cases K with
    | true =>
      get_elem_tactic_trivial
      rw [step]
      · get_elem_tactic_trivial
        rw [shL, List.map_append]; rfl
      · intro d; rfl
    | false =>
      get_elem_tactic_trivial
      rw [step]
      · get_elem_tactic_trivial
        simp
      · intro d; rfl
  | some t =>
    have gi : gIs false (.sh t.d) = some (.sh (.bool false)) := rfl
    have gt := gGt_ship (s := s) (t := t)
    clear ask ask2 lc
    cases q : t.lt s with
    | false => rw [q] at gt; clear step; get_elem_tactic_trivial; simp
    | true =>
      rw [q] at gt
      cases K with
      | true =>
        get_elem_tactic_trivial
        rw [step]
        · get_elem_tactic_trivial
          rw [shL, List.map_append]; rfl
        · intro d; rfl
      | false =>
        get_elem_tactic_trivial
        rw [step]
        · get_elem_tactic_trivial
          simp
        · intro d; rfl
theorem cutS_take {fleet : List Nat} {p : Nat} : gSl (.sh (fD fleet)) none (some (p : Nat)) = some (.sh (.tuple ((fleet.take p).map fun n => .int ((n : Nat) : Int)))) := by
  unfold gSl fD
  simp only [fz_sh, cut_to, List.map_take]
theorem hid2_q {R C : Nat} {u : Rule} {fleet : List Nat} {p l : Nat} {S : List Ship} {h : Hid} {acc : List Hid} {vs vn : OV} (hvs : fz vs = .list (S.map Ship.d)) (hvn : vn = nearO u S (nears R C [] (fleet.take p)))
    (hr : RowOk fleet p h) (hm : ∀ t ∈ h, ∃ l ∈ fleet.take p, t ∈ ships R C l) (hs : ∀ s ∈ S, s.n = l) (ha : acc.length + ((S.filter (okNext u h)).map fun s => h ++ [s]).length < sizeLine) (hl : h.length ≤ 100) :
    q_all_hidings_2 (fD fleet) [.int (p : Nat), .int (l : Nat)] vs vn (hD h) (shL hD acc) = .next (shL hD (acc ++ (S.filter (okNext u h)).map fun s => h ++ [s])) := by
  subst hvn
  have hz := sizeLine_eq
  have main : ∀ least : Option Ship, (∀ s ∈ S, later h s = (match least with | none => true | some t => t.lt s)) →
      forO (S.map Ship.d) (fun x s_1 => q_all_hidings_1 (nearO u S (nears R C [] (fleet.take p))) (hD h) (.sh (match least with | none => .none | some t => t.d)) x s_1) (shL hD acc) = .next (shL hD (acc ++ (S.filter (okNext u h)).map fun s => h ++ [s])) := fun least hle => by
    have fe : S.flatMap (fun s => if okNext u h s = true then [h ++ [s]] else []) = (S.filter (okNext u h)).map fun s => h ++ [s] := flat_filter (okNext u h) (fun s => h ++ [s]) S
    rw [← fe]
    refine forO_g1 Ship.d hD (fun s => if okNext u h s = true then [h ++ [s]] else []) (sizeLine - 1) S acc (by rw [fe]; omega) fun s hsS a hb => ?_
    by_cases hf : a.length < sizeLine
    · rw [hid1_q (least := least) hsS hm hf hl]
      have : okNext u h s = (later h s && h.all fun t => keepB u t s) := rfl
      rw [this, hle s hsS]
    · exfalso
      omega
  have ce : (0 < ((p : Nat) : Int)) ↔ 0 < p := by omega
  unfold q_all_hidings_2
  by_cases hp : p = 0
  · subst hp
    have m := main none (fun s hsS => ((later_q hr (hs s hsS)).1 rfl).2)
    simp only at m
    clear main hr hm ha hs
    get_elem_tactic_trivial
  · have hp' : 0 < p := by omega
    obtain ⟨t, h0, k', e1, e2, e3, _⟩ := (later_q (s := ⟨0, 0, true, l⟩) hr rfl).2 hp
    have lt : ∀ s ∈ S, later h s = (decide (k' ≠ l) || t.lt s) := fun s hsS => by
      obtain ⟨t', h0', k'', e1', e2', e3', e4'⟩ := (later_q hr (hs s hsS)).2 hp
      have : t' = t := by
        have := e1'.symm.trans e1
        exact (List.append_inj' this rfl).2 |> fun z => by injection z
      subst this
      rw [e4', e3', e3]
    have gl : Ev.gSub (.sh (hD h)) (.sh (.int (-1))) = some (.sh t.d) := by
      unfold hD
      rw [gSub_tup, e1, List.map_append, List.map_cons, List.map_nil, atI_last]; rfl
    have ck : (((k' : Nat) : Int) = (l : Nat)) ↔ k' = l := by omega
    by_cases hkl : k' = l
    · have m := main (some t) (fun s hsS => by rw [lt s hsS]; simp [hkl])
      simp only at m
      clear main hr hm ha hs lt e1 e3 hp
      get_elem_tactic_trivial
    · have m := main none (fun s hsS => by rw [lt s hsS]; simp [hkl])
      simp only at m
      clear main hr hm ha hs lt e1 e3 hp
      get_elem_tactic_trivial
theorem hid3_q {R C : Nat} {u : Rule} {fleet : List Nat} {p l : Nat} {rows : List Hid} {x : PyData} (hR : R ≤ 8) (hC : C ≤ 8) (hl1 : 1 ≤ l) (hl : l ≤ 1000) (hfl : ∀ l ∈ fleet, 1 ≤ l ∧ l ≤ 1000) (hr : ∀ h ∈ rows, RowOk fleet p h) (hm : ∀ h ∈ rows, ∀ t ∈ h, ∃ l ∈ fleet.take p, t ∈ ships R C l) (hf : fleet.length ≤ 100) (hb : (extH R C u rows l).length < sizeLine) :
    q_all_hidings_3 (cD (R, C)) (fD fleet) u.d [.int (p : Nat), .int (l : Nat)] x (shL hD rows) = .next (shL hD (extH R C u rows l)) := by
  have hb8 : R * (C * 2) ≤ 8 * 16 := Nat.mul_le_mul (by omega) (by omega)
  have sl := ships_len (R := R) (C := C) (l := l)
  have sq := ships_q (R := R) (C := C) hl1 hR hC
  have sn : ∀ s ∈ ships R C l, s.n = l := fun s hs => mem_shipsN hs
  have nd := ships_nodup R C l
  have hz := sizeLine_eq
  have nq := near_ships_q (u := u) (ls := fleet.take p) (fun l hl => hfl l (List.mem_of_mem_take hl)) hR hC (fun s hs => by rw [sn s hs]; exact hl) nd (by omega) (by rw [List.length_take]; omega)
  have cs := cutS_take (fleet := fleet) (p := p)
  unfold extH at hb ⊢
  generalize ships R C l = S at *
  have m3 : fz (shL Ship.d S) = .list (S.map Ship.d) := fz_shL
  have lp : forO (rows.map hD) (fun x s => q_all_hidings_2 (fD fleet) [.int (p : Nat), .int (l : Nat)] (shL Ship.d S) (nearO u S (nears R C [] (fleet.take p))) x s) (.lst []) = .next (shL hD (rows.flatMap fun h => (S.filter (okNext u h)).map fun s => h ++ [s])) := by
    refine forO_g0 hD hD (fun h => (S.filter (okNext u h)).map fun s => h ++ [s]) (sizeLine - 1) rows (by omega) fun h hh a ha => ?_
    have hlen : h.length ≤ 100 := by
      have := congrArg List.length (hr h hh).1
      rw [List.length_map, List.length_take] at this
      omega
    exact hid2_q m3 rfl (hr h hh) (hm h hh) sn (by omega) hlen
  clear hr hm hb sl hb8 hz nd
  unfold q_all_hidings_3
  get_elem_tactic_trivial
/-- all hidings, as the program reckons them -/
theorem prog_all_q {R C : Nat} {u : Rule} {fleet : List Nat} (hR : R ≤ 8) (hC : C ≤ 8) (hf : ∀ l ∈ fleet, 1 ≤ l ∧ l ≤ 1000) (hn : fleet.length ≤ 100) (hb : ∀ k, k ≤ fleet.length → (allH R C u (fleet.take k)).length < sizeLine) :
    q_all_hidings [cD (R, C), fD fleet, u.d] = .ok (shL hD (allH R C u fleet)) := by
  have key : ∀ (post : List Nat) (pre : List Nat), pre ++ post = fleet → forO ((post.zipIdx pre.length).map fun q => .tuple [.int (q.2 : Nat), .int ((q.1 : Nat) : Int)]) (fun x s => O.bind (O.of (unT 2 x)) fun t => q_all_hidings_3 (cD (R, C)) (fD fleet) u.d t x s) (shL hD (allH R C u pre)) = .next (shL hD (allH R C u fleet)) := by
    intro post
    induction post with
    | nil => intro pre e; rw [List.append_nil] at e; subst e; rfl
    | cons l post ih =>
      intro pre e
      have tk : fleet.take pre.length = pre := by rw [← e]; simp
      have tk1 : fleet.take (pre.length + 1) = pre ++ [l] := by
        have e2 : pre ++ l :: post = (pre ++ [l]) ++ post := by simp
        rw [← e, e2]
        exact List.take_left' (by simp)
      have lt : pre.length < fleet.length := by rw [← e]; simp
      have b1 := hb (pre.length + 1) (by omega)
      rw [tk1, allH_snoc] at b1
      have fl := hf l (by rw [← e]; simp)
      have st := hid3_q (x := .tuple [.int ((pre.length : Nat) : Int), .int ((l : Nat) : Int)]) hR hC fl.1 fl.2 hf (rows := allH R C u pre) (p := pre.length) (u := u) (fun h hh => ⟨by rw [allH_ns pre h hh, tk], lt⟩) (fun h hh t ht => by rw [tk]; exact allH_mem pre h hh t ht) hn b1
      have := ih (pre ++ [l]) (by rw [List.append_assoc]; exact e)
      rw [List.length_append, List.length_singleton, allH_snoc] at this
      rw [List.zipIdx_cons, List.map_cons, forO_cons]
      simp only [unT_l2, O.of_ok, O.bind_next, st]
      exact this
  have k0 := key fleet [] rfl
  simp only [List.length_nil] at k0
  have en : enR (.sh (fD fleet)) = .ok ((fleet.zipIdx 0).map fun q => .tuple [.int (q.2 : Nat), .int ((q.1 : Nat) : Int)]) := by
    unfold enR
    rw [fz_sh]
    show Ev.R.ok (enumD 0 (fleet.map fun n => .int (n : Nat))) = _
    rw [enum_map]
  have s0 : shL hD (allH R C u []) = .lst [.sh (.tuple [])] := rfl
  rw [s0] at k0
  clear key s0
  unfold q_all_hidings q_all_hidings_0
  get_elem_tactic_trivial
end Com
namespace Com
open PySem PySem.Spec L2 Ev
open PyProof.Rows hiding St
local macro_rules | `(tactic| decreasing_trivial_pre_omega) => `(tactic| simp only [↓R.bind_ok, ↓R.bind_exc, ↓R.bind_stk, ↓O.bind_next, ↓O.bind_ret, ↓O.bind_exc, ↓O.bind_stk, R.bind_ok, R.bind_exc, R.bind_stk, O.bind_next, O.bind_ret, O.bind_exc, O.bind_stk, O.of_ok, O.of_exc, O.of_stk, O.fin_next, O.fin_ret, O.fin_exc, ofOR_some, ofPR_some, toBR_b, andR_b, orR_b, chR_b, iR_i, noX_ok, szR_lit, Option.isSome_some, Option.isSome_none, mutR_app, mutR_some, ownR_lst, ownR_dk, ownR_dt, itR_tup, itR_list, itR_lst, unT_l2, unT_l3, unT_l4, unT_l5, unT_l6, unT_l7, unL_l2, unL_l3, unL_l4, unL_l5, unL_l6, unL_l7, nd0, nd1, nd2, nd3, nd4, nd5, nd6, par2R_ok, gAdd_int, gII_ok, gI_int, gOrd_int, gEq_int, fz_sh, fz_lst, gNot_b, g1, g1_one, gi_int_none, gi_int_bool, gi_int_int, gi_int_str, gi_int_list, gi_int_tuple, gi_bool_none, gi_bool_bool, gi_bool_int, gi_bool_str, gi_bool_list, gi_bool_tuple, gi_str_none, gi_str_bool, gi_str_int, gi_str_str, gi_str_list, gi_str_tuple, gi_list_none, gi_list_bool, gi_list_int, gi_list_str, gi_list_list, gi_list_tuple, gi_tuple_none, gi_tuple_bool, gi_tuple_int, gi_tuple_str, gi_tuple_list, gi_tuple_tuple, gMax_two, mApp_ok, ownT_lst, dLen_list, dLen_tup, gSub_list, gSub_tup, gSub_lst, atI_l0, atI_l1, atI_l2, atI_l3, atI_l4, atI_l5, atI_l6, Option.map_some, dInt_b, dInt_i, dAbs_i, List.map_cons, List.map_nil, List.cons_append, List.nil_append, if_true, if_false, Bool.false_eq_true, decide_true, decide_false, Bool.false_xor, Bool.true_xor, decide_eq_true_eq, List.length_cons, List.length_nil, nl0, nl1, nl2, nl3, nl4, nl5, nl6, nl7, nl8, nl9, nl10, nl11, nl12, nl13, nl14, nl15, nl16, nl17, nl18, nl19, nl20, Nat.reduceAdd, Nat.reduceSub, Nat.reduceMul, Int.reduceLT, Int.reduceEq, Int.reduceSub, Int.reduceAdd, Int.reduceNeg, Int.reduceLE, Int.reduceMul, Int.reduceToNat, sz_le, sz_lt, Nat.reduceLeDiff, Nat.reduceLT, Bool.not_true, Bool.not_false, Bool.true_and, Bool.and_true, Bool.false_and, Bool.and_false, Bool.true_or, Bool.or_true, Bool.false_or, Bool.or_false, rite_and, rite_or, rb_and, rb_or, Bool.decide_eq_true, Bool.decide_and, Bool.decide_or, gAdd_LL, gAdd_Ll, gAdd_lL, gAdd_lst, gAdd_TT, map_sh_fz, map_fz_shL, List.length_map, gEq_bool, eq_self, forO_nil, forO_cons, lcR_nil, rng1R_ok, rng2R_ok])
local macro_rules | `(tactic| get_elem_tactic_trivial) => `(tactic| simp only [↓R.bind_ok, ↓R.bind_exc, ↓R.bind_stk, ↓O.bind_next, ↓O.bind_ret, ↓O.bind_exc, ↓O.bind_stk, R.bind_ok, R.bind_exc, R.bind_stk, O.bind_next, O.bind_ret, O.bind_exc, O.bind_stk, O.of_ok, O.of_exc, O.of_stk, O.fin_next, O.fin_ret, O.fin_exc, ofOR_some, ofPR_some, toBR_b, andR_b, orR_b, chR_b, iR_i, noX_ok, szR_lit, Option.isSome_some, Option.isSome_none, mutR_app, mutR_some, ownR_lst, ownR_dk, ownR_dt, itR_tup, itR_list, itR_lst, unT_l2, unT_l3, unT_l4, unT_l5, unT_l6, unT_l7, unL_l2, unL_l3, unL_l4, unL_l5, unL_l6, unL_l7, nd0, nd1, nd2, nd3, nd4, nd5, nd6, par2R_ok, gAdd_int, gII_ok, gI_int, gOrd_int, gEq_int, fz_sh, fz_lst, gNot_b, g1, g1_one, gi_int_none, gi_int_bool, gi_int_int, gi_int_str, gi_int_list, gi_int_tuple, gi_bool_none, gi_bool_bool, gi_bool_int, gi_bool_str, gi_bool_list, gi_bool_tuple, gi_str_none, gi_str_bool, gi_str_int, gi_str_str, gi_str_list, gi_str_tuple, gi_list_none, gi_list_bool, gi_list_int, gi_list_str, gi_list_list, gi_list_tuple, gi_tuple_none, gi_tuple_bool, gi_tuple_int, gi_tuple_str, gi_tuple_list, gi_tuple_tuple, gMax_two, mApp_ok, ownT_lst, dLen_list, dLen_tup, gSub_list, gSub_tup, gSub_lst, atI_l0, atI_l1, atI_l2, atI_l3, atI_l4, atI_l5, atI_l6, Option.map_some, dInt_b, dInt_i, dAbs_i, List.map_cons, List.map_nil, List.cons_append, List.nil_append, if_true, if_false, Bool.false_eq_true, decide_true, decide_false, Bool.false_xor, Bool.true_xor, decide_eq_true_eq, List.length_cons, List.length_nil, nl0, nl1, nl2, nl3, nl4, nl5, nl6, nl7, nl8, nl9, nl10, nl11, nl12, nl13, nl14, nl15, nl16, nl17, nl18, nl19, nl20, Nat.reduceAdd, Nat.reduceSub, Nat.reduceMul, Int.reduceLT, Int.reduceEq, Int.reduceSub, Int.reduceAdd, Int.reduceNeg, Int.reduceLE, Int.reduceMul, Int.reduceToNat, sz_le, sz_lt, Nat.reduceLeDiff, Nat.reduceLT, Bool.not_true, Bool.not_false, Bool.true_and, Bool.and_true, Bool.false_and, Bool.and_false, Bool.true_or, Bool.or_true, Bool.false_or, Bool.or_false, rite_and, rite_or, rb_and, rb_or, Bool.decide_eq_true, Bool.decide_and, Bool.decide_or, gAdd_LL, gAdd_Ll, gAdd_lL, gAdd_lst, gAdd_TT, map_sh_fz, map_fz_shL, List.length_map, gEq_bool, eq_self, forO_nil, forO_cons, lcR_nil, rng1R_ok, rng2R_ok, *])
/-! ### games -/
def srt (ns : List Nat) : List Nat := ns.mergeSort fun a b => decide (a ≤ b)
abbrev nD (n : Nat) : PyData := .int (n : Nat)
theorem EqE.nat : EqE nD 0 := ⟨fun _ => by simp [PyData.canLay0], fun _ => by simp [PyData.depth], fun x y => by rw [eqv_int, decide_eq_true_eq]; exact Int.natCast_inj⟩
theorem leD_nat (a b : Nat) : leD (nD a) (nD b) = decide (a ≤ b) := by
  rw [leD_eq, PySem.W.dataLt_int, Bool.eq_iff_iff]
  simp
theorem sort_nats {ns : List Nat} (hl : ns.length ≤ sizeLine) : dSorted (.tuple (ns.map nD)) = some (shL nD (srt ns)) := by
  unfold dSorted sortD
  simp only
  have ok : sortOk (ns.map nD) = true := sort_ok EqE.nat (by decide) (fun x _ y _ => by simp [PySem.W.alike]) (.inr fun x => rfl) hl
  rw [if_pos ok, shL]
  have e := List.map_mergeSort (r := fun a b => decide (a ≤ b)) (s := leD) (f := nD) (l := ns) fun a _ b _ => (leD_nat a b).symm
  unfold srt
  rw [← e, List.map_map]; rfl
theorem srt_perm (ns : List Nat) : (srt ns).Perm ns := List.mergeSort_perm ..
/-- a game's fleet -/
def fleetOf (ns : List Nat) : List Nat := (srt ns).reverse
theorem fleetOf_perm (ns : List Nat) : (fleetOf ns).Perm ns := (List.reverse_perm _).trans (srt_perm ns)
theorem fleetOf_len (ns : List Nat) : (fleetOf ns).length = ns.length := (fleetOf_perm ns).length_eq
theorem fleetOf_mem {ns : List Nat} {n : Nat} : n ∈ fleetOf ns ↔ n ∈ ns := (fleetOf_perm ns).mem_iff
theorem rev_sh {ns : List Nat} : dRev (.list ((srt ns).map nD)) = some (shL nD (fleetOf ns)) := by
  unfold dRev fleetOf shL
  simp only [← List.map_reverse, List.map_map]
  rfl
/-- what a small game is -/
structure Game (R C : Nat) (fleet : List Nat) : Prop where
  r1 : 1 ≤ R
  r8 : R ≤ 5
  c1 : 1 ≤ C
  c8 : C ≤ 5
  f1 : fleet ≠ []
  f3 : fleet.length ≤ 3
  fl : ∀ l ∈ fleet, 1 ≤ l ∧ l ≤ 4
  few : (R * (C * 2)) ^ fleet.length ≤ 14000
def ruleAt (n : Nat) : Rule := match n with
  | 0 => .free
  | 1 => .sides
  | _ => .corners
theorem rule_at {n : Nat} (h : n < 3) : atI [PyData.str "free", .str "sides", .str "corners"] (n : Nat) = some (ruleAt n).d := by
  rcases n with _ | _ | _ | n
  · rfl
  · rfl
  · rfl
  · omega
theorem ints3 {a b c : Nat} : ([a, b, c] : List Nat).map nD = [.int (a : Nat), .int (b : Nat), .int (c : Nat)] := rfl
theorem game_q (cell : Int) : ∃ R C fleet u, Game R C fleet ∧ q__law_game [.int cell] = .ok (.sh (.tuple [cD (R, C), fD fleet, Rule.d u])) := by
  obtain ⟨xs, hd, hx⟩ := drawn_q cell [4, 4, 4, 4, 4, 4, 3] (by decide) (by decide)
  obtain ⟨way, rows, columns, first, second, third, rule, rfl, h0, h1, h2, h3, h4, h5, h6⟩ := drawn7 hx
  clear hx
  obtain ⟨way, rfl⟩ := nat_of h0.1
  obtain ⟨rows, rfl⟩ := nat_of h1.1
  obtain ⟨columns, rfl⟩ := nat_of h2.1
  obtain ⟨first, rfl⟩ := nat_of h3.1
  obtain ⟨second, rfl⟩ := nat_of h4.1
  obtain ⟨third, rfl⟩ := nat_of h5.1
  obtain ⟨rule, rfl⟩ := nat_of h6.1
  simp only [List.map_cons, List.map_nil] at hd
  have er := rule_at (n := rule) (by omega)
  have s1 : dSorted (.tuple [.int (1 + (first : Int))]) = some (shL nD (srt [1 + first])) := sort_nats (ns := [1 + first]) (by rw [sizeLine_eq]; simp)
  have s2 : dSorted (.tuple [.int (1 + (first : Int) % 3), .int (1 + (second : Int) % 3)]) = some (shL nD (srt [1 + first % 3, 1 + second % 3])) := sort_nats (ns := [1 + first % 3, 1 + second % 3]) (by rw [sizeLine_eq]; simp)
  have s3 : dSorted (.tuple [.int (1 + (first : Int) % 3), .int (1 + (second : Int) % 2), .int (1 + (third : Int) % 2)]) = some (shL nD (srt [1 + first % 3, 1 + second % 2, 1 + third % 2])) := sort_nats (ns := [1 + first % 3, 1 + second % 2, 1 + third % 2]) (by rw [sizeLine_eq]; simp)
  have s4 : dSorted (.tuple [.int (1 + (first : Int) % 3), .int (1 + (second : Int) % 3), .int (1 + (third : Int) % 2)]) = some (shL nD (srt [1 + first % 3, 1 + second % 3, 1 + third % 2])) := sort_nats (ns := [1 + first % 3, 1 + second % 3, 1 + third % 2]) (by rw [sizeLine_eq]; simp)
  have way4 : way = 0 ∨ way = 1 ∨ way = 2 ∨ way = 3 := by omega
  have rv := fun ns => rev_sh (ns := ns)
  have tp := fun ns => dTuple_l (ds := (fleetOf ns).map nD)
  have m0 : ∀ x y z : PyData, atI [x, y, z] (min2 0 2) = some x := fun _ _ _ => rfl
  have m1 : ∀ x y z : PyData, atI [x, y, z] (min2 1 2) = some y := fun _ _ _ => rfl
  have m2 : ∀ x y z : PyData, atI [x, y, z] (min2 2 2) = some z := fun _ _ _ => rfl
  have m3 : ∀ x y z : PyData, atI [x, y, z] (min2 3 2) = some z := fun _ _ _ => rfl
  have k0 : ∀ x y z : PyData, atI [x, y, z] (0 % 3) = some x := fun _ _ _ => rfl
  have k1 : ∀ x y z : PyData, atI [x, y, z] (1 % 3) = some y := fun _ _ _ => rfl
  have k2 : ∀ x y z : PyData, atI [x, y, z] (2 % 3) = some z := fun _ _ _ => rfl
  have k3 : ∀ x y z : PyData, atI [x, y, z] (3 % 3) = some x := fun _ _ _ => rfl
  have mf := fun ns => map_fz_shL (e := nD) (xs := fleetOf ns)
  have g : ∀ (R C : Nat) (ns : List Nat) (B : Nat), 1 ≤ R → R ≤ 5 → 1 ≤ C → C ≤ 5 → ns ≠ [] → ns.length ≤ 3 → (∀ l ∈ ns, 1 ≤ l ∧ l ≤ 4) → R * (C * 2) ≤ B → B ^ ns.length ≤ 14000 → Game R C (fleetOf ns) := fun R C ns B h1 h2 h3 h4 h5 h6 h7 h8 h9 =>
    ⟨h1, h2, h3, h4, fun e => h5 (by have := fleetOf_len ns; rw [e] at this; exact List.eq_nil_of_length_eq_zero this.symm), by rw [fleetOf_len]; exact h6, fun l hl => h7 l (fleetOf_mem.mp hl), by rw [fleetOf_len]; exact Nat.le_trans (Nat.pow_le_pow_left h8 _) h9⟩
  unfold q__law_game q__law_game_0
  rcases way4 with rfl | rfl | rfl | rfl
  · refine ⟨1 + rows, 1 + columns, fleetOf [1 + first], ruleAt rule, g _ _ _ 32 (by omega) (by omega) (by omega) (by omega) (by simp) (by simp) (by simp; omega) ?_ (by simp), ?_⟩
    · exact Nat.mul_le_mul (show 1 + rows ≤ 4 by omega) (show (1 + columns) * 2 ≤ 8 by omega)
    · clear h0 h1 h2 h3 h4 h5 h6 g
      unfold cD fD
      push_cast
      get_elem_tactic_trivial
  · refine ⟨2 + rows % 3, 2 + columns % 3, fleetOf [1 + first % 3, 1 + second % 3], ruleAt rule, g _ _ _ 32 (by omega) (by omega) (by omega) (by omega) (by simp) (by simp) (by simp; omega) ?_ (by simp), ?_⟩
    · exact Nat.mul_le_mul (show 2 + rows % 3 ≤ 4 by omega) (show (2 + columns % 3) * 2 ≤ 8 by omega)
    · clear h0 h1 h2 h3 h4 h5 h6 g
      unfold cD fD
      push_cast
      get_elem_tactic_trivial
  · refine ⟨1 + rows % 3, 3 + columns % 2, fleetOf [1 + first % 3, 1 + second % 2, 1 + third % 2], ruleAt rule, g _ _ _ 24 (by omega) (by omega) (by omega) (by omega) (by simp) (by simp) (by simp; omega) ?_ (by simp), ?_⟩
    · exact Nat.mul_le_mul (show 1 + rows % 3 ≤ 3 by omega) (show (3 + columns % 2) * 2 ≤ 8 by omega)
    · clear h0 h1 h2 h3 h4 h5 h6 g
      unfold cD fD
      push_cast
      get_elem_tactic_trivial
  · refine ⟨2, 2 + columns, fleetOf [1 + first % 3, 1 + second % 3, 1 + third % 2], ruleAt rule, g _ _ _ 20 (by omega) (by omega) (by omega) (by omega) (by simp) (by simp) (by simp; omega) ?_ (by simp), ?_⟩
    · exact Nat.mul_le_mul (show 2 ≤ 2 by omega) (show (2 + columns) * 2 ≤ 10 by omega)
    · clear h0 h1 h2 h3 h4 h5 h6 g
      unfold cD fD
      push_cast
      get_elem_tactic_trivial
theorem Game.all_lt {R C : Nat} {u : Rule} {fleet : List Nat} (g : Game R C fleet) (k : Nat) (hk : k ≤ fleet.length) : (allH R C u (fleet.take k)).length < sizeLine := by
  have h := allH_len (R := R) (C := C) (u := u) (fleet.take k)
  have h1 : 1 ≤ R * (C * 2) := Nat.mul_pos g.r1 (Nat.mul_pos g.c1 (by decide))
  have h2 : (R * (C * 2)) ^ (fleet.take k).length ≤ (R * (C * 2)) ^ fleet.length := Nat.pow_le_pow_right h1 (by rw [List.length_take]; omega)
  have := g.few
  rw [sizeLine_eq]
  omega
theorem Game.law_q {R C : Nat} {u : Rule} {fleet : List Nat} (g : Game R C fleet) : q__law_all [cD (R, C), fD fleet, u.d] = .ok (shL hD (allH R C u fleet)) :=
  law_all_q (Nat.le_trans g.r8 (by decide)) (Nat.le_trans g.c8 (by decide)) (fun l hl => Nat.le_trans (g.fl l hl).2 (by decide)) (Nat.le_trans g.f3 (by decide)) fun k hk => g.all_lt k hk
theorem Game.prog_q {R C : Nat} {u : Rule} {fleet : List Nat} (g : Game R C fleet) : q_all_hidings [cD (R, C), fD fleet, u.d] = .ok (shL hD (allH R C u fleet)) :=
  prog_all_q (Nat.le_trans g.r8 (by decide)) (Nat.le_trans g.c8 (by decide)) (fun l hl => ⟨(g.fl l hl).1, Nat.le_trans (g.fl l hl).2 (by decide)⟩) (Nat.le_trans g.f3 (by decide)) fun k hk => g.all_lt k hk
theorem Game.all_le {R C : Nat} {u : Rule} {fleet : List Nat} (g : Game R C fleet) : (allH R C u fleet).length ≤ 14000 := Nat.le_trans (allH_len fleet) g.few
theorem Game.one {R C : Nat} {fleet : List Nat} (g : Game R C fleet) : Game R C [1] :=
  ⟨g.r1, g.r8, g.c1, g.c8, by simp, by decide, by simp, by have := Nat.mul_le_mul g.r8 (Nat.mul_le_mul_right 2 g.c8); rw [List.length_singleton, Nat.pow_one]; omega⟩
theorem one_ne {R C : Nat} {u : Rule} (h1 : 1 ≤ R) (h2 : 1 ≤ C) : allH R C u [1] ≠ [] := by
  have : (⟨0, 0, true, 1⟩ : Ship) ∈ ships R C 1 := by
    rw [mem_ships (by decide)]
    refine ⟨rfl, ?_⟩
    have := (ok_along (R := R) (C := C) (r := 0) (c := 0) (n := 1) (by decide)).mpr ⟨by omega, by omega, by omega, by omega⟩
    exact this
  intro e
  have hm : [(⟨0, 0, true, 1⟩ : Ship)] ∈ allH R C u [1] := by
    show _ ∈ extH R C u [[]] 1
    unfold extH
    simp only [List.flatMap_cons, List.flatMap_nil, List.append_nil, List.mem_map, List.mem_filter]
    exact ⟨_, ⟨this, rfl⟩, rfl⟩
  rw [e] at hm; cases hm
/-- a game that has hidings -/
theorem played_q (cell : Int) : ∃ R C fleet u, Game R C fleet ∧ allH R C u fleet ≠ [] ∧ q__law_played [.int cell] = .ok (.sh (.tuple [cD (R, C), fD fleet, Rule.d u, .list ((allH R C u fleet).map hD)])) := by
  obtain ⟨R, C, fleet, u, g, hq⟩ := game_q cell
  have a := g.law_q (u := u)
  have b := g.one.law_q (u := u)
  have e1 := EqE.ship.tup.eqND (by decide) (neg := false) (xs := allH R C u fleet)
  have e1 : gEq false (.sh (.list ((allH R C u fleet).map hD))) (.lst []) = some (.sh (.bool (false ^^ (allH R C u fleet).isEmpty))) := e1
  have m1 := fz_shL (e := hD) (xs := allH R C u fleet)
  have m2 := fz_shL (e := hD) (xs := allH R C u [1])
  have f1 : fD [1] = .tuple [.int 1] := rfl
  rw [f1] at b
  by_cases h : allH R C u fleet = []
  · refine ⟨R, C, [1], u, g.one, one_ne g.r1 g.c1, ?_⟩
    have h0 : (allH R C u fleet).isEmpty = true := by rw [h]; rfl
    clear h
    unfold q__law_played q__law_played_0
    rw [f1]
    generalize fD fleet = F at *
    clear g f1
    get_elem_tactic_trivial
  · refine ⟨R, C, fleet, u, g, h, ?_⟩
    have h0 : (allH R C u fleet).isEmpty = false := by rw [Bool.eq_false_iff]; simpa using h
    clear h
    unfold q__law_played q__law_played_0
    generalize fD fleet = F at *
    clear g f1
    get_elem_tactic_trivial
end Com
namespace Com
open PySem PySem.Spec L2 Ev
open PyProof.Rows hiding St
local macro_rules | `(tactic| decreasing_trivial_pre_omega) => `(tactic| simp only [↓R.bind_ok, ↓R.bind_exc, ↓R.bind_stk, ↓O.bind_next, ↓O.bind_ret, ↓O.bind_exc, ↓O.bind_stk, R.bind_ok, R.bind_exc, R.bind_stk, O.bind_next, O.bind_ret, O.bind_exc, O.bind_stk, O.of_ok, O.of_exc, O.of_stk, O.fin_next, O.fin_ret, O.fin_exc, ofOR_some, ofPR_some, toBR_b, andR_b, orR_b, chR_b, iR_i, noX_ok, szR_lit, Option.isSome_some, Option.isSome_none, mutR_app, mutR_some, ownR_lst, ownR_dk, ownR_dt, itR_tup, itR_list, itR_lst, unT_l2, unT_l3, unT_l4, unT_l5, unT_l6, unT_l7, unL_l2, unL_l3, unL_l4, unL_l5, unL_l6, unL_l7, nd0, nd1, nd2, nd3, nd4, nd5, nd6, par2R_ok, gAdd_int, gII_ok, gI_int, gOrd_int, gEq_int, fz_sh, fz_lst, gNot_b, g1, g1_one, gi_int_none, gi_int_bool, gi_int_int, gi_int_str, gi_int_list, gi_int_tuple, gi_bool_none, gi_bool_bool, gi_bool_int, gi_bool_str, gi_bool_list, gi_bool_tuple, gi_str_none, gi_str_bool, gi_str_int, gi_str_str, gi_str_list, gi_str_tuple, gi_list_none, gi_list_bool, gi_list_int, gi_list_str, gi_list_list, gi_list_tuple, gi_tuple_none, gi_tuple_bool, gi_tuple_int, gi_tuple_str, gi_tuple_list, gi_tuple_tuple, gMax_two, mApp_ok, ownT_lst, dLen_list, dLen_tup, gSub_list, gSub_tup, gSub_lst, atI_l0, atI_l1, atI_l2, atI_l3, atI_l4, atI_l5, atI_l6, Option.map_some, dInt_b, dInt_i, dAbs_i, List.map_cons, List.map_nil, List.cons_append, List.nil_append, if_true, if_false, Bool.false_eq_true, decide_true, decide_false, Bool.false_xor, Bool.true_xor, decide_eq_true_eq, List.length_cons, List.length_nil, nl0, nl1, nl2, nl3, nl4, nl5, nl6, nl7, nl8, nl9, nl10, nl11, nl12, nl13, nl14, nl15, nl16, nl17, nl18, nl19, nl20, Nat.reduceAdd, Nat.reduceSub, Nat.reduceMul, Int.reduceLT, Int.reduceEq, Int.reduceSub, Int.reduceAdd, Int.reduceNeg, Int.reduceLE, Int.reduceMul, Int.reduceToNat, sz_le, sz_lt, Nat.reduceLeDiff, Nat.reduceLT, Bool.not_true, Bool.not_false, Bool.true_and, Bool.and_true, Bool.false_and, Bool.and_false, Bool.true_or, Bool.or_true, Bool.false_or, Bool.or_false, rite_and, rite_or, rb_and, rb_or, Bool.decide_eq_true, Bool.decide_and, Bool.decide_or, gAdd_LL, gAdd_Ll, gAdd_lL, gAdd_lst, gAdd_TT, map_sh_fz, map_fz_shL, List.length_map, gEq_bool, eq_self, forO_nil, forO_cons, lcR_nil, rng1R_ok, rng2R_ok])
local macro_rules | `(tactic| get_elem_tactic_trivial) => `(tactic| simp only [↓R.bind_ok, ↓R.bind_exc, ↓R.bind_stk, ↓O.bind_next, ↓O.bind_ret, ↓O.bind_exc, ↓O.bind_stk, R.bind_ok, R.bind_exc, R.bind_stk, O.bind_next, O.bind_ret, O.bind_exc, O.bind_stk, O.of_ok, O.of_exc, O.of_stk, O.fin_next, O.fin_ret, O.fin_exc, ofOR_some, ofPR_some, toBR_b, andR_b, orR_b, chR_b, iR_i, noX_ok, szR_lit, Option.isSome_some, Option.isSome_none, mutR_app, mutR_some, ownR_lst, ownR_dk, ownR_dt, itR_tup, itR_list, itR_lst, unT_l2, unT_l3, unT_l4, unT_l5, unT_l6, unT_l7, unL_l2, unL_l3, unL_l4, unL_l5, unL_l6, unL_l7, nd0, nd1, nd2, nd3, nd4, nd5, nd6, par2R_ok, gAdd_int, gII_ok, gI_int, gOrd_int, gEq_int, fz_sh, fz_lst, gNot_b, g1, g1_one, gi_int_none, gi_int_bool, gi_int_int, gi_int_str, gi_int_list, gi_int_tuple, gi_bool_none, gi_bool_bool, gi_bool_int, gi_bool_str, gi_bool_list, gi_bool_tuple, gi_str_none, gi_str_bool, gi_str_int, gi_str_str, gi_str_list, gi_str_tuple, gi_list_none, gi_list_bool, gi_list_int, gi_list_str, gi_list_list, gi_list_tuple, gi_tuple_none, gi_tuple_bool, gi_tuple_int, gi_tuple_str, gi_tuple_list, gi_tuple_tuple, gMax_two, mApp_ok, ownT_lst, dLen_list, dLen_tup, gSub_list, gSub_tup, gSub_lst, atI_l0, atI_l1, atI_l2, atI_l3, atI_l4, atI_l5, atI_l6, Option.map_some, dInt_b, dInt_i, dAbs_i, List.map_cons, List.map_nil, List.cons_append, List.nil_append, if_true, if_false, Bool.false_eq_true, decide_true, decide_false, Bool.false_xor, Bool.true_xor, decide_eq_true_eq, List.length_cons, List.length_nil, nl0, nl1, nl2, nl3, nl4, nl5, nl6, nl7, nl8, nl9, nl10, nl11, nl12, nl13, nl14, nl15, nl16, nl17, nl18, nl19, nl20, Nat.reduceAdd, Nat.reduceSub, Nat.reduceMul, Int.reduceLT, Int.reduceEq, Int.reduceSub, Int.reduceAdd, Int.reduceNeg, Int.reduceLE, Int.reduceMul, Int.reduceToNat, sz_le, sz_lt, Nat.reduceLeDiff, Nat.reduceLT, Bool.not_true, Bool.not_false, Bool.true_and, Bool.and_true, Bool.false_and, Bool.and_false, Bool.true_or, Bool.or_true, Bool.false_or, Bool.or_false, rite_and, rite_or, rb_and, rb_or, Bool.decide_eq_true, Bool.decide_and, Bool.decide_or, gAdd_LL, gAdd_Ll, gAdd_lL, gAdd_lst, gAdd_TT, map_sh_fz, map_fz_shL, List.length_map, gEq_bool, eq_self, forO_nil, forO_cons, lcR_nil, rng1R_ok, rng2R_ok, *])
/-! ### a sheet's cells, a drawn order -/
def sheetC (R C : Nat) : List Cell := (List.range R).flatMap fun (r : Nat) => (List.range C).map fun (c : Nat) => ((r : Int), (c : Int))
theorem sheetC_len (R C : Nat) : (sheetC R C).length = R * C := by
  unfold sheetC
  induction R with
  | zero => simp
  | succ n ih => rw [List.range_succ, List.flatMap_append, List.length_append, ih]; simp [Nat.succ_mul]
theorem mem_sheetC {R C : Nat} {p : Cell} : p ∈ sheetC R C ↔ onB R C p = true := by
  unfold sheetC
  simp only [List.mem_flatMap, List.mem_range, List.mem_map]
  rw [onB_iff]
  constructor
  · rintro ⟨r, hr, c, hc, rfl⟩
    exact ⟨by show (0 : Int) ≤ (r : Nat); omega, by show ((r : Nat) : Int) < _; omega, by show (0 : Int) ≤ (c : Nat); omega, by show ((c : Nat) : Int) < _; omega⟩
  · rintro ⟨h1, h2, h3, h4⟩
    obtain ⟨r, e1⟩ := nat_of h1
    obtain ⟨c, e2⟩ := nat_of h3
    exact ⟨r, by omega, c, by omega, by rw [← e1, ← e2]⟩
theorem sheetC_lt (R C : Nat) : (sheetC R C).Pairwise fun p q => p.1 < q.1 ∨ (p.1 = q.1 ∧ p.2 < q.2) := by
  unfold sheetC
  rw [List.pairwise_flatMap]
  refine ⟨fun r _ => ?_, ?_⟩
  · rw [List.pairwise_map]
    exact List.pairwise_lt_range.imp fun h => .inr ⟨rfl, by show ((_ : Nat) : Int) < _; omega⟩
  · refine List.pairwise_lt_range.imp fun {a b} h => ?_
    intro x hx y hy
    obtain ⟨c, _, rfl⟩ := List.mem_map.mp hx
    obtain ⟨d, _, rfl⟩ := List.mem_map.mp hy
    exact .inl (by show ((a : Nat) : Int) < _; omega)
theorem sheetC_nodup (R C : Nat) : (sheetC R C).Nodup := (sheetC_lt R C).imp fun {p q} h e => by subst e; omega
theorem cells_row (r C : Nat) (hC : C ≤ 100) : ∀ f : PyData → Ev.R (Option OV), (∀ c < C, f (.int (c : Nat)) = .ok (some (.sh (cD ((r : Int), ((c : Nat) : Int)))))) → lcR f ((List.range C).map fun z => .int ((z : Nat) : Int)) = .ok (((List.range C).map fun (c : Nat) => ((r : Int), (c : Int))).map fun p => .sh (cD p)) := fun f hf => by
  rw [lcR_map (fun k : Nat => PyData.int (k : Nat)) (fun c : Nat => .sh (cD ((r : Int), ((c : Nat) : Int)))) _ fun c hc => hf c (List.mem_range.mp hc), List.map_map]
  rfl
theorem law_sheet_q {R C : Nat} (hR : R ≤ 100) (hC : C ≤ 100) : q__law_sheet_cells [cD (R, C)] = .ok (shL cD (sheetC R C)) := by
  have hb : R * C ≤ 100 * 100 := Nat.mul_le_mul hR hC
  unfold q__law_sheet_cells q__law_sheet_cells_0
  unfold cD
  decreasing_trivial_pre_omega
  rw [rng1R_n (by omega)]
  decreasing_trivial_pre_omega
  rw [forO_g0 (fun k : Nat => .int (k : Nat)) cD (fun (r : Nat) => (List.range C).map fun (c : Nat) => ((r : Int), (c : Int))) 20000]
  · decreasing_trivial_pre_omega; rfl
  · have := sheetC_len R C; unfold sheetC at this; omega
  · intro r _ a ha
    rw [List.length_map, List.length_range] at ha
    unfold q__law_sheet_cells_1
    decreasing_trivial_pre_omega
    rw [rng1R_n (by omega)]
    decreasing_trivial_pre_omega
    rw [cells_row r C hC _ fun c _ => by unfold cD; decreasing_trivial_pre_omega]
    have z : ∀ o, szR (List.range C).length (OV.lst o) = .ok (OV.lst o) := fun o => szR_le (by rw [sizeLine_eq, List.length_range]; omega)
    have sh : OV.lst (((List.range C).map fun (c : Nat) => ((r : Int), (c : Int))).map fun p => OV.sh (cD p)) = shL cD ((List.range C).map fun (c : Nat) => ((r : Int), (c : Int))) := rfl
    have m := mutR_some (ext_shL (en := cD) (a := a) (b := (List.range C).map fun (c : Nat) => ((r : Int), (c : Int))) (by rw [sizeLine_eq]; simp; omega))
    clear hb hR hC ha
    decreasing_trivial_pre_omega
    simp only [z, sh]
    get_elem_tactic_trivial
theorem order_q {α : Type} {e : α → PyData} (cell : Int) (xs : List α) (hl : xs.length ≤ 1000) : ∃ ys : List α, ys.Perm xs ∧ q__law_order [.int cell, .list (xs.map e)] = .ok (shL e ys) := by
  obtain ⟨s', h1, ys, rfl, h3⟩ := forO_inv (f := fun x s => O.bind (O.of (unT 2 (fz (.sh x)))) fun t30 => q__law_order_1 (.int cell) t30 x s)
    (fun k s => ∃ ys : List α, s = shL e ys ∧ ys.Perm (xs.take k)) (enumD 0 (xs.map e)) 0 (shL e []) ⟨[], rfl, by simp⟩ (fun k d s hk hp => by
      obtain ⟨ys, rfl, hp⟩ := hp
      rw [enum_map, List.getElem?_map] at hk
      obtain ⟨⟨x, j⟩, hj, rfl⟩ := Option.map_eq_some_iff.mp hk
      rw [List.getElem?_zipIdx] at hj
      obtain ⟨x', hx, e1⟩ := Option.map_eq_some_iff.mp hj
      cases e1
      rw [Nat.zero_add] at hp ⊢
      have hlt := (List.getElem?_eq_some_iff.mp hx).1
      have st := stir_q (cell := cell) (k := 3 * ((k : Nat) : Int) + 1) (by omega) (by omega)
      have hy : ys.length = k := by rw [hp.length_eq, List.length_take]; omega
      have mk : gMulI (.sh (.int 3)) (.sh (.int (k : Nat))) = some (.sh (.int (3 * (k : Nat)))) := gII_ok (mulOk_l (by decide))
      have n1 := Int.emod_nonneg (stir cell (3 * ((k : Nat) : Int) + 1)) (show ((k : Nat) : Int) + 1 ≠ 0 by omega)
      have n2 := Int.emod_lt_of_pos (stir cell (3 * ((k : Nat) : Int) + 1)) (show 0 < ((k : Nat) : Int) + 1 by omega)
      obtain ⟨i, hi⟩ := nat_of n1
      have mi : mIns (shL e ys) [.sh (.int i), .sh (e x)] = some (shL e (ys.take i ++ x :: ys.drop i), .sh .none) := by
        unfold mIns shL
        simp only [List.length_map]
        rw [if_pos ⟨by rw [sizeLine_eq]; omega, by omega, by omega, by simp⟩, Int.toNat_natCast]
        simp [List.map_take, List.map_drop]
      have mm := mutR_some mi
      have q2 : (0 : Int) < ((k : Nat) : Int) + 1 := by omega
      refine ⟨shL e (ys.take i ++ x :: ys.drop i), ?_, ys.take i ++ x :: ys.drop i, rfl, ?_⟩
      · clear hp hk hj hx hlt hy n2 mi hl
        unfold q__law_order_1
        get_elem_tactic_trivial
      · rw [List.take_succ, hx]
        refine List.perm_middle.trans ?_
        rw [List.take_append_drop]
        exact (hp.cons x).trans (List.perm_append_singleton x _).symm)
  refine ⟨ys, ?_, ?_⟩
  · have := enumD_len 0 (xs.map e)
    rw [Nat.zero_add, this, List.length_map, List.take_length] at h3
    exact h3
  · clear h3
    have h1 : forO (enumD 0 (xs.map e)) (fun x s => O.bind (O.of (unT 2 x)) fun t30 => q__law_order_1 (.int cell) t30 x s) (shL e []) = .next (shL e ys) := by
      have e0 : ∀ x, fz (.sh x) = x := fun _ => fz_sh
      simp only [e0] at h1
      exact h1
    have e2 : enR (.sh (.list (xs.map e))) = .ok (enumD 0 (xs.map e)) := by unfold enR; rw [fz_sh]; rfl
    have e3 : (OV.lst [] : OV) = shL e [] := rfl
    unfold q__law_order q__law_order_0
    decreasing_trivial_pre_omega
    rw [e2]
    decreasing_trivial_pre_omega
    rw [e3]
    get_elem_tactic_trivial
end Com
namespace Com
open PySem PySem.Spec L2 Ev
open PyProof.Rows hiding St
local macro_rules | `(tactic| decreasing_trivial_pre_omega) => `(tactic| simp only [↓R.bind_ok, ↓R.bind_exc, ↓R.bind_stk, ↓O.bind_next, ↓O.bind_ret, ↓O.bind_exc, ↓O.bind_stk, R.bind_ok, R.bind_exc, R.bind_stk, O.bind_next, O.bind_ret, O.bind_exc, O.bind_stk, O.of_ok, O.of_exc, O.of_stk, O.fin_next, O.fin_ret, O.fin_exc, ofOR_some, ofPR_some, toBR_b, andR_b, orR_b, chR_b, iR_i, noX_ok, szR_lit, Option.isSome_some, Option.isSome_none, mutR_app, mutR_some, ownR_lst, ownR_dk, ownR_dt, itR_tup, itR_list, itR_lst, unT_l2, unT_l3, unT_l4, unT_l5, unT_l6, unT_l7, unL_l2, unL_l3, unL_l4, unL_l5, unL_l6, unL_l7, nd0, nd1, nd2, nd3, nd4, nd5, nd6, par2R_ok, gAdd_int, gII_ok, gI_int, gOrd_int, gEq_int, fz_sh, fz_lst, gNot_b, g1, g1_one, gi_int_none, gi_int_bool, gi_int_int, gi_int_str, gi_int_list, gi_int_tuple, gi_bool_none, gi_bool_bool, gi_bool_int, gi_bool_str, gi_bool_list, gi_bool_tuple, gi_str_none, gi_str_bool, gi_str_int, gi_str_str, gi_str_list, gi_str_tuple, gi_list_none, gi_list_bool, gi_list_int, gi_list_str, gi_list_list, gi_list_tuple, gi_tuple_none, gi_tuple_bool, gi_tuple_int, gi_tuple_str, gi_tuple_list, gi_tuple_tuple, gMax_two, mApp_ok, ownT_lst, dLen_list, dLen_tup, gSub_list, gSub_tup, gSub_lst, atI_l0, atI_l1, atI_l2, atI_l3, atI_l4, atI_l5, atI_l6, Option.map_some, dInt_b, dInt_i, dAbs_i, List.map_cons, List.map_nil, List.cons_append, List.nil_append, if_true, if_false, Bool.false_eq_true, decide_true, decide_false, Bool.false_xor, Bool.true_xor, decide_eq_true_eq, List.length_cons, List.length_nil, nl0, nl1, nl2, nl3, nl4, nl5, nl6, nl7, nl8, nl9, nl10, nl11, nl12, nl13, nl14, nl15, nl16, nl17, nl18, nl19, nl20, Nat.reduceAdd, Nat.reduceSub, Nat.reduceMul, Int.reduceLT, Int.reduceEq, Int.reduceSub, Int.reduceAdd, Int.reduceNeg, Int.reduceLE, Int.reduceMul, Int.reduceToNat, sz_le, sz_lt, Nat.reduceLeDiff, Nat.reduceLT, Bool.not_true, Bool.not_false, Bool.true_and, Bool.and_true, Bool.false_and, Bool.and_false, Bool.true_or, Bool.or_true, Bool.false_or, Bool.or_false, rite_and, rite_or, rb_and, rb_or, Bool.decide_eq_true, Bool.decide_and, Bool.decide_or, gAdd_LL, gAdd_Ll, gAdd_lL, gAdd_lst, gAdd_TT, map_sh_fz, map_fz_shL, List.length_map, gEq_bool, eq_self, forO_nil, forO_cons, lcR_nil, rng1R_ok, rng2R_ok])
local macro_rules | `(tactic| get_elem_tactic_trivial) => `(tactic| simp only [↓R.bind_ok, ↓R.bind_exc, ↓R.bind_stk, ↓O.bind_next, ↓O.bind_ret, ↓O.bind_exc, ↓O.bind_stk, R.bind_ok, R.bind_exc, R.bind_stk, O.bind_next, O.bind_ret, O.bind_exc, O.bind_stk, O.of_ok, O.of_exc, O.of_stk, O.fin_next, O.fin_ret, O.fin_exc, ofOR_some, ofPR_some, toBR_b, andR_b, orR_b, chR_b, iR_i, noX_ok, szR_lit, Option.isSome_some, Option.isSome_none, mutR_app, mutR_some, ownR_lst, ownR_dk, ownR_dt, itR_tup, itR_list, itR_lst, unT_l2, unT_l3, unT_l4, unT_l5, unT_l6, unT_l7, unL_l2, unL_l3, unL_l4, unL_l5, unL_l6, unL_l7, nd0, nd1, nd2, nd3, nd4, nd5, nd6, par2R_ok, gAdd_int, gII_ok, gI_int, gOrd_int, gEq_int, fz_sh, fz_lst, gNot_b, g1, g1_one, gi_int_none, gi_int_bool, gi_int_int, gi_int_str, gi_int_list, gi_int_tuple, gi_bool_none, gi_bool_bool, gi_bool_int, gi_bool_str, gi_bool_list, gi_bool_tuple, gi_str_none, gi_str_bool, gi_str_int, gi_str_str, gi_str_list, gi_str_tuple, gi_list_none, gi_list_bool, gi_list_int, gi_list_str, gi_list_list, gi_list_tuple, gi_tuple_none, gi_tuple_bool, gi_tuple_int, gi_tuple_str, gi_tuple_list, gi_tuple_tuple, gMax_two, mApp_ok, ownT_lst, dLen_list, dLen_tup, gSub_list, gSub_tup, gSub_lst, atI_l0, atI_l1, atI_l2, atI_l3, atI_l4, atI_l5, atI_l6, Option.map_some, dInt_b, dInt_i, dAbs_i, List.map_cons, List.map_nil, List.cons_append, List.nil_append, if_true, if_false, Bool.false_eq_true, decide_true, decide_false, Bool.false_xor, Bool.true_xor, decide_eq_true_eq, List.length_cons, List.length_nil, nl0, nl1, nl2, nl3, nl4, nl5, nl6, nl7, nl8, nl9, nl10, nl11, nl12, nl13, nl14, nl15, nl16, nl17, nl18, nl19, nl20, Nat.reduceAdd, Nat.reduceSub, Nat.reduceMul, Int.reduceLT, Int.reduceEq, Int.reduceSub, Int.reduceAdd, Int.reduceNeg, Int.reduceLE, Int.reduceMul, Int.reduceToNat, sz_le, sz_lt, Nat.reduceLeDiff, Nat.reduceLT, Bool.not_true, Bool.not_false, Bool.true_and, Bool.and_true, Bool.false_and, Bool.and_false, Bool.true_or, Bool.or_true, Bool.false_or, Bool.or_false, rite_and, rite_or, rb_and, rb_or, Bool.decide_eq_true, Bool.decide_and, Bool.decide_or, gAdd_LL, gAdd_Ll, gAdd_lL, gAdd_lst, gAdd_TT, map_sh_fz, map_fz_shL, List.length_map, gEq_bool, eq_self, forO_nil, forO_cons, lcR_nil, rng1R_ok, rng2R_ok, *])
/-! ### cells as bits -/
def InB (p : Cell) : Prop := 0 ≤ p.1 ∧ p.1 < 8 ∧ 0 ≤ p.2 ∧ p.2 < 8
def bx (p : Cell) : Nat := 8 * p.1.toNat + p.2.toNat
theorem bx_inj {p q : Cell} (hp : InB p) (hq : InB q) : bx p = bx q ↔ p = q := by
  obtain ⟨p1, p2⟩ := p
  obtain ⟨q1, q2⟩ := q
  unfold InB at hp hq
  unfold bx
  simp only at hp hq ⊢
  constructor
  · intro h
    have e1 : p1 = q1 := by omega
    have e2 : p2 = q2 := by omega
    rw [e1, e2]
  · intro h
    injection h with e1 e2
    rw [e1, e2]
/-- the bits of n are those of the cells of S -/
def Bits (n : Nat) (S : List Cell) : Prop := ∀ i, n.testBit i = S.any fun p => decide (bx p = i)
theorem Bits.nil : Bits 0 [] := fun i => by simp
theorem Bits.one (p : Cell) : Bits (2 ^ bx p) [p] := fun i => by
  rw [Nat.testBit_two_pow]; simp
theorem Bits.or {n m : Nat} {S T : List Cell} (h : Bits n S) (k : Bits m T) : Bits (n ||| m) (S ++ T) := fun i => by
  rw [Nat.testBit_or, h i, k i, List.any_append]
theorem Bits.lt {n k : Nat} {S : List Cell} (h : Bits n S) (hk : ∀ p ∈ S, bx p < k) : n < 2 ^ k := by
  apply Nat.lt_pow_two_of_testBit
  intro i hi
  rw [h i, List.any_eq_false]
  intro p hp
  have := hk p hp
  simp; omega
def sumB (S : List Cell) : Nat := (S.map fun p => 2 ^ bx p).sum
theorem sumB_bits : ∀ (k : Nat) (S : List Cell), S.length = k → (S.Pairwise fun p q => bx p < bx q) → Bits (sumB S) S := by
  intro k
  induction k with
  | zero => intro S hS _; have := List.eq_nil_of_length_eq_zero hS; subst this; exact .nil
  | succ k ih =>
    intro S hS hp
    have hne : S ≠ [] := fun e => by rw [e] at hS; cases hS
    obtain ⟨T, x, rfl⟩ : ∃ T x, S = T ++ [x] := ⟨S.dropLast, S.getLast hne, (List.dropLast_concat_getLast hne).symm⟩
    rw [List.length_append, List.length_singleton] at hS
    rw [List.pairwise_append] at hp
    obtain ⟨hT, _, hx⟩ := hp
    have b := ih T (by omega) hT
    have lt : sumB T < 2 ^ bx x := b.lt fun p hp => hx p hp x (by simp)
    have e : sumB (T ++ [x]) = sumB T ||| 2 ^ bx x := by
      unfold sumB at *
      rw [List.map_append, List.sum_append]
      simp only [List.map_cons, List.map_nil, List.sum_cons, List.sum_nil, Nat.add_zero]
      have := Nat.two_pow_add_eq_or_of_lt lt 1
      rw [Nat.mul_one] at this
      rw [Nat.add_comm, this, Nat.or_comm]
    rw [e]
    exact b.or (.one x)
theorem and_int (a b : Nat) : Builtin.bitAnd (a : Int) (b : Int) = ((a &&& b : Nat) : Int) := by
  unfold Builtin.bitAnd
  simp
theorem not_nat (a : Nat) : (Builtin.bitNot (Builtin.bitNot (a : Int))) = a := by unfold Builtin.bitNot; omega
theorem or_int (a b : Nat) : Builtin.bitOr (a : Int) (b : Int) = ((a ||| b : Nat) : Int) := by
  have h1 : decide (0 ≤ Builtin.bitNot (a : Int)) = false := by unfold Builtin.bitNot; rw [decide_eq_false_iff_not]; omega
  have h2 : decide (0 ≤ Builtin.bitNot (b : Int)) = false := by unfold Builtin.bitNot; rw [decide_eq_false_iff_not]; omega
  unfold Builtin.bitOr Builtin.bitAnd
  simp only [h1, h2, not_nat, Int.toNat_natCast]
theorem andNot_int (a b : Nat) : Builtin.bitAnd (a : Int) (Builtin.bitNot (b : Int)) = (a : Int) - ((a &&& b : Nat) : Int) := by
  have h1 : decide (0 ≤ (a : Int)) = true := by simp
  have h2 : decide (0 ≤ Builtin.bitNot (b : Int)) = false := by unfold Builtin.bitNot; rw [decide_eq_false_iff_not]; omega
  unfold Builtin.bitAnd
  simp only [h1, h2, not_nat, Int.toNat_natCast]
/-- is a bit's cell there -/
theorem and_bit {n : Nat} {S : List Cell} {p : Cell} (h : Bits n S) (hS : ∀ q ∈ S, InB q) (hp : InB p) : decide (((n &&& 2 ^ bx p : Nat) : Int) = 0) = !decide (p ∈ S) := by
  have e : (n &&& 2 ^ bx p = 0) ↔ n.testBit (bx p) = false := by
    constructor
    · intro h0
      have := congrArg (fun z => Nat.testBit z (bx p)) h0
      simpa [Nat.testBit_and, Nat.testBit_two_pow_self] using this
    · intro h0
      apply Nat.eq_of_testBit_eq
      intro i
      rw [Nat.testBit_and, Nat.testBit_two_pow, Nat.zero_testBit]
      by_cases hi : bx p = i
      · subst hi; rw [h0]; rfl
      · simp [hi]
  have m : n.testBit (bx p) = decide (p ∈ S) := by
    rw [h, Bool.eq_iff_iff, List.any_eq_true, decide_eq_true_eq]
    constructor
    · rintro ⟨q, hq, e⟩
      rw [decide_eq_true_eq, bx_inj (hS q hq) hp] at e
      subst e; exact hq
    · intro hm; exact ⟨p, hm, by simp⟩
  rw [m] at e
  by_cases hm : p ∈ S <;> simp [hm] at e ⊢ <;> simpa using e
theorem sub_bits {n m : Nat} {S T : List Cell} (h : Bits n S) (k : Bits m T) (hS : ∀ q ∈ S, InB q) (hT : ∀ q ∈ T, InB q) : decide ((n : Int) - ((n &&& m : Nat) : Int) = 0) = S.all fun p => decide (p ∈ T) := by
  have e : ((n : Int) - ((n &&& m : Nat) : Int) = 0) ↔ n &&& m = n := by omega
  rw [Bool.eq_iff_iff, decide_eq_true_eq, e, List.all_eq_true]
  constructor
  · intro hn p hp
    have h1 : n.testBit (bx p) = true := by rw [h, List.any_eq_true]; exact ⟨p, hp, by simp⟩
    rw [← hn, Nat.testBit_and, Bool.and_eq_true, k, List.any_eq_true] at h1
    obtain ⟨_, q, hq, e⟩ := h1
    rw [decide_eq_true_eq, bx_inj (hT q hq) (hS p hp)] at e
    subst e; simpa using hq
  · intro ha
    apply Nat.eq_of_testBit_eq
    intro i
    rw [Nat.testBit_and]
    cases hn : n.testBit i with
    | false => rfl
    | true =>
      rw [h, List.any_eq_true] at hn
      obtain ⟨p, hp, e⟩ := hn
      have hm := ha p hp
      rw [decide_eq_true_eq] at e hm
      rw [k, Bool.true_and, List.any_eq_true]
      exact ⟨p, hm, by simpa using e⟩
end Com
namespace Com
open PySem PySem.Spec L2 Ev
open PyProof.Rows hiding St
local macro_rules | `(tactic| decreasing_trivial_pre_omega) => `(tactic| simp only [↓R.bind_ok, ↓R.bind_exc, ↓R.bind_stk, ↓O.bind_next, ↓O.bind_ret, ↓O.bind_exc, ↓O.bind_stk, R.bind_ok, R.bind_exc, R.bind_stk, O.bind_next, O.bind_ret, O.bind_exc, O.bind_stk, O.of_ok, O.of_exc, O.of_stk, O.fin_next, O.fin_ret, O.fin_exc, ofOR_some, ofPR_some, toBR_b, andR_b, orR_b, chR_b, iR_i, noX_ok, szR_lit, Option.isSome_some, Option.isSome_none, mutR_app, mutR_some, ownR_lst, ownR_dk, ownR_dt, itR_tup, itR_list, itR_lst, unT_l2, unT_l3, unT_l4, unT_l5, unT_l6, unT_l7, unL_l2, unL_l3, unL_l4, unL_l5, unL_l6, unL_l7, nd0, nd1, nd2, nd3, nd4, nd5, nd6, par2R_ok, gAdd_int, gII_ok, gI_int, gOrd_int, gEq_int, fz_sh, fz_lst, gNot_b, g1, g1_one, gi_int_none, gi_int_bool, gi_int_int, gi_int_str, gi_int_list, gi_int_tuple, gi_bool_none, gi_bool_bool, gi_bool_int, gi_bool_str, gi_bool_list, gi_bool_tuple, gi_str_none, gi_str_bool, gi_str_int, gi_str_str, gi_str_list, gi_str_tuple, gi_list_none, gi_list_bool, gi_list_int, gi_list_str, gi_list_list, gi_list_tuple, gi_tuple_none, gi_tuple_bool, gi_tuple_int, gi_tuple_str, gi_tuple_list, gi_tuple_tuple, gMax_two, mApp_ok, ownT_lst, dLen_list, dLen_tup, gSub_list, gSub_tup, gSub_lst, atI_l0, atI_l1, atI_l2, atI_l3, atI_l4, atI_l5, atI_l6, Option.map_some, dInt_b, dInt_i, dAbs_i, List.map_cons, List.map_nil, List.cons_append, List.nil_append, if_true, if_false, Bool.false_eq_true, decide_true, decide_false, Bool.false_xor, Bool.true_xor, decide_eq_true_eq, List.length_cons, List.length_nil, nl0, nl1, nl2, nl3, nl4, nl5, nl6, nl7, nl8, nl9, nl10, nl11, nl12, nl13, nl14, nl15, nl16, nl17, nl18, nl19, nl20, Nat.reduceAdd, Nat.reduceSub, Nat.reduceMul, Int.reduceLT, Int.reduceEq, Int.reduceSub, Int.reduceAdd, Int.reduceNeg, Int.reduceLE, Int.reduceMul, Int.reduceToNat, sz_le, sz_lt, Nat.reduceLeDiff, Nat.reduceLT, Bool.not_true, Bool.not_false, Bool.true_and, Bool.and_true, Bool.false_and, Bool.and_false, Bool.true_or, Bool.or_true, Bool.false_or, Bool.or_false, rite_and, rite_or, rb_and, rb_or, Bool.decide_eq_true, Bool.decide_and, Bool.decide_or, gAdd_LL, gAdd_Ll, gAdd_lL, gAdd_lst, gAdd_TT, map_sh_fz, map_fz_shL, List.length_map, gEq_bool, eq_self, forO_nil, forO_cons, lcR_nil, rng1R_ok, rng2R_ok])
local macro_rules | `(tactic| get_elem_tactic_trivial) => `(tactic| simp only [↓R.bind_ok, ↓R.bind_exc, ↓R.bind_stk, ↓O.bind_next, ↓O.bind_ret, ↓O.bind_exc, ↓O.bind_stk, R.bind_ok, R.bind_exc, R.bind_stk, O.bind_next, O.bind_ret, O.bind_exc, O.bind_stk, O.of_ok, O.of_exc, O.of_stk, O.fin_next, O.fin_ret, O.fin_exc, ofOR_some, ofPR_some, toBR_b, andR_b, orR_b, chR_b, iR_i, noX_ok, szR_lit, Option.isSome_some, Option.isSome_none, mutR_app, mutR_some, ownR_lst, ownR_dk, ownR_dt, itR_tup, itR_list, itR_lst, unT_l2, unT_l3, unT_l4, unT_l5, unT_l6, unT_l7, unL_l2, unL_l3, unL_l4, unL_l5, unL_l6, unL_l7, nd0, nd1, nd2, nd3, nd4, nd5, nd6, par2R_ok, gAdd_int, gII_ok, gI_int, gOrd_int, gEq_int, fz_sh, fz_lst, gNot_b, g1, g1_one, gi_int_none, gi_int_bool, gi_int_int, gi_int_str, gi_int_list, gi_int_tuple, gi_bool_none, gi_bool_bool, gi_bool_int, gi_bool_str, gi_bool_list, gi_bool_tuple, gi_str_none, gi_str_bool, gi_str_int, gi_str_str, gi_str_list, gi_str_tuple, gi_list_none, gi_list_bool, gi_list_int, gi_list_str, gi_list_list, gi_list_tuple, gi_tuple_none, gi_tuple_bool, gi_tuple_int, gi_tuple_str, gi_tuple_list, gi_tuple_tuple, gMax_two, mApp_ok, ownT_lst, dLen_list, dLen_tup, gSub_list, gSub_tup, gSub_lst, atI_l0, atI_l1, atI_l2, atI_l3, atI_l4, atI_l5, atI_l6, Option.map_some, dInt_b, dInt_i, dAbs_i, List.map_cons, List.map_nil, List.cons_append, List.nil_append, if_true, if_false, Bool.false_eq_true, decide_true, decide_false, Bool.false_xor, Bool.true_xor, decide_eq_true_eq, List.length_cons, List.length_nil, nl0, nl1, nl2, nl3, nl4, nl5, nl6, nl7, nl8, nl9, nl10, nl11, nl12, nl13, nl14, nl15, nl16, nl17, nl18, nl19, nl20, Nat.reduceAdd, Nat.reduceSub, Nat.reduceMul, Int.reduceLT, Int.reduceEq, Int.reduceSub, Int.reduceAdd, Int.reduceNeg, Int.reduceLE, Int.reduceMul, Int.reduceToNat, sz_le, sz_lt, Nat.reduceLeDiff, Nat.reduceLT, Bool.not_true, Bool.not_false, Bool.true_and, Bool.and_true, Bool.false_and, Bool.and_false, Bool.true_or, Bool.or_true, Bool.false_or, Bool.or_false, rite_and, rite_or, rb_and, rb_or, Bool.decide_eq_true, Bool.decide_and, Bool.decide_or, gAdd_LL, gAdd_Ll, gAdd_lL, gAdd_lst, gAdd_TT, map_sh_fz, map_fz_shL, List.length_map, gEq_bool, eq_self, forO_nil, forO_cons, lcR_nil, rng1R_ok, rng2R_ok, *])
/-! ### what a hiding answers -/
inductive Ans where
  | water | hit | sunk
  deriving DecidableEq
def Ans.s : Ans → Str
  | .water => "water" | .hit => "hit" | .sunk => "sunk"
abbrev Ans.d (a : Ans) : PyData := .str a.s
theorem Ans.ok (a : Ans) : PyData.strOk a.s = true := by cases a <;> decide +kernel
theorem Ans.inj (a b : Ans) : a.s = b.s ↔ a = b := by cases a <;> cases b <;> decide +kernel
theorem EqE.ans : EqE Ans.d 0 := ⟨fun a => by simp [PyData.canLay0, a.ok], fun _ => by simp [PyData.depth], fun a b => by simp [PyData.eqv, Ans.inj]⟩
def sinkB (s : Ship) (shot : List Cell) : Bool := s.cells.all fun p => decide (p ∈ shot)
def ansOf (h : Hid) (shot : List Cell) (c : Cell) : Ans := match h.find? fun s => decide (c ∈ s.cells) with
  | none => .water
  | some s => if sinkB s (c :: shot) = true then .sunk else .hit
def ansL (h : Hid) : List Cell → List Cell → List Ans
  | _, [] => []
  | shot, c :: cs => ansOf h shot c :: ansL h (c :: shot) cs
theorem ansL_len (h : Hid) : ∀ (cs shot : List Cell), (ansL h shot cs).length = cs.length
  | [], _ => rfl
  | c :: cs, shot => congrArg (· + 1) (ansL_len h cs (c :: shot))
/-- a ship within 8 rows and columns -/
def Ship.inB (s : Ship) : Prop := s.n ≤ 1000 ∧ ∀ p ∈ s.cells, InB p
theorem cells_rise {s : Ship} (h : s.inB) : s.cells.Pairwise fun p q => bx p < bx q := by
  obtain ⟨_, h⟩ := h
  by_cases hn : s.n = 0
  · have : s.cells = [] := List.eq_nil_of_length_eq_zero (by rw [len_cells]; exact hn)
    rw [this]; exact .nil
  have h0 := h _ (show s.cells[0]'(by rw [len_cells]; omega) ∈ s.cells from List.getElem_mem _)
  unfold Ship.cells at h0 ⊢
  simp only [List.getElem_map, List.getElem_range] at h0
  unfold InB at h0
  rw [List.pairwise_map]
  refine List.pairwise_lt_range.imp fun {a b} hab => ?_
  unfold bx
  cases e : s.al <;> simp only [e, if_true, Bool.false_eq_true, if_false] at h0 ⊢ <;> omega
theorem cells_nodup (s : Ship) : s.cells.Nodup := by
  unfold Ship.cells
  rw [List.nodup_iff_pairwise_ne, List.pairwise_map]
  refine List.pairwise_lt_range.imp fun {a b} hab e => ?_
  cases h : s.al <;> simp [h] at e <;> omega
theorem bits_ship {s : Ship} (h : s.inB) : Bits (sumB s.cells) s.cells := sumB_bits _ _ rfl (cells_rise h)
theorem bit_q {p : Cell} (hp : InB p) : q_bit_of [cD p] = .ok (.sh (.int ((2 ^ bx p : Nat) : Int))) := by
  obtain ⟨a, b⟩ := p
  unfold InB at hp
  simp only at hp
  have m : gMulI (.sh (.int 8)) (.sh (.int a)) = some (.sh (.int (8 * a))) := gII_ok (mulOk_l (by decide))
  have g : gShlI (.sh (.int 1)) (.sh (.int (8 * a + b))) = some (.sh (.int ((2 ^ bx (a, b) : Nat) : Int))) := by
    have : (1 : Int) * 2 ^ (8 * a + b).toNat = ((2 ^ bx (a, b) : Nat) : Int) := by
      have e : (8 * a + b).toNat = bx (a, b) := by unfold bx; simp only; omega
      rw [e, Int.one_mul]
      exact (Int.natCast_pow 2 (bx (a, b))).symm
    rw [← this]
    exact gII_ok (by unfold shlOk; rw [decide_eq_true_eq]; refine ⟨by omega, by omega, by decide⟩)
  clear hp
  unfold q_bit_of q_bit_of_0 cD
  get_elem_tactic_trivial
theorem sum_cast : ∀ l : List Nat, (l.map fun n => ((n : Nat) : Int)).sum = ((l.sum : Nat) : Int)
  | [] => rfl
  | n :: l => by rw [List.map_cons, List.sum_cons, List.sum_cons, sum_cast l, Int.natCast_add]
theorem ints_nat {α : Type} (f : α → Nat) : ∀ l : List α, intsOf (l.map fun x => PyData.int ((f x : Nat) : Int)) = some (l.map fun x => ((f x : Nat) : Int))
  | [] => rfl
  | n :: l => by rw [List.map_cons, intsOf, ints_nat f l]; rfl
theorem sum_q {α : Type} (f : α → Nat) (l : List α) : dSum (.list (l.map fun x => .int ((f x : Nat) : Int))) = some (.sh (.int (((l.map f).sum : Nat) : Int))) := by
  unfold dSum
  simp only
  rw [ints_nat]
  show some (OV.sh (.int _)) = _
  rw [← sum_cast, List.map_map]; rfl
theorem bits_of_q {s : Ship} (h : s.inB) : q_bits_of [s.d] = .ok (.sh (.int ((sumB s.cells : Nat) : Int))) := by
  have a := cells_q h.1
  have mf := map_fz_shL (e := cD) (xs := s.cells)
  have sq := sum_q (fun p => 2 ^ bx p) s.cells
  have sb : ((s.cells.map fun p => 2 ^ bx p).sum) = sumB s.cells := rfl
  rw [sb] at sq
  have z := szR_le (n := s.cells.length) (x := OV.lst (s.cells.map fun p => OV.sh (.int ((2 ^ bx p : Nat) : Int)))) (by rw [len_cells, sizeLine_eq]; have := h.1; omega)
  have lc : ∀ g : PyData → Ev.R (Option OV), (∀ p ∈ s.cells, g (cD p) = .ok (some (.sh (.int ((2 ^ bx p : Nat) : Int))))) → lcR g (s.cells.map cD) = .ok (s.cells.map fun p => .sh (.int ((2 ^ bx p : Nat) : Int))) := fun g hg => lcR_map _ _ _ hg
  have fl := fz_shL (e := fun p : Cell => PyData.int ((2 ^ bx p : Nat) : Int)) (xs := s.cells)
  unfold q_bits_of q_bits_of_0
  have hb := h.2
  clear h
  get_elem_tactic_trivial
  rw [lc _ fun p hp => by rw [bit_q (hb p hp)]; decreasing_trivial_pre_omega]
  clear hb lc
  get_elem_tactic_trivial
end Com
namespace Com
open PySem PySem.Spec L2 Ev
open PyProof.Rows hiding St
local macro_rules | `(tactic| decreasing_trivial_pre_omega) => `(tactic| simp only [↓R.bind_ok, ↓R.bind_exc, ↓R.bind_stk, ↓O.bind_next, ↓O.bind_ret, ↓O.bind_exc, ↓O.bind_stk, R.bind_ok, R.bind_exc, R.bind_stk, O.bind_next, O.bind_ret, O.bind_exc, O.bind_stk, O.of_ok, O.of_exc, O.of_stk, O.fin_next, O.fin_ret, O.fin_exc, ofOR_some, ofPR_some, toBR_b, andR_b, orR_b, chR_b, iR_i, noX_ok, szR_lit, Option.isSome_some, Option.isSome_none, mutR_app, mutR_some, ownR_lst, ownR_dk, ownR_dt, itR_tup, itR_list, itR_lst, unT_l2, unT_l3, unT_l4, unT_l5, unT_l6, unT_l7, unL_l2, unL_l3, unL_l4, unL_l5, unL_l6, unL_l7, nd0, nd1, nd2, nd3, nd4, nd5, nd6, par2R_ok, gAdd_int, gII_ok, gI_int, gOrd_int, gEq_int, fz_sh, fz_lst, gNot_b, g1, g1_one, gi_int_none, gi_int_bool, gi_int_int, gi_int_str, gi_int_list, gi_int_tuple, gi_bool_none, gi_bool_bool, gi_bool_int, gi_bool_str, gi_bool_list, gi_bool_tuple, gi_str_none, gi_str_bool, gi_str_int, gi_str_str, gi_str_list, gi_str_tuple, gi_list_none, gi_list_bool, gi_list_int, gi_list_str, gi_list_list, gi_list_tuple, gi_tuple_none, gi_tuple_bool, gi_tuple_int, gi_tuple_str, gi_tuple_list, gi_tuple_tuple, gMax_two, mApp_ok, ownT_lst, dLen_list, dLen_tup, gSub_list, gSub_tup, gSub_lst, atI_l0, atI_l1, atI_l2, atI_l3, atI_l4, atI_l5, atI_l6, Option.map_some, dInt_b, dInt_i, dAbs_i, List.map_cons, List.map_nil, List.cons_append, List.nil_append, if_true, if_false, Bool.false_eq_true, decide_true, decide_false, Bool.false_xor, Bool.true_xor, decide_eq_true_eq, List.length_cons, List.length_nil, nl0, nl1, nl2, nl3, nl4, nl5, nl6, nl7, nl8, nl9, nl10, nl11, nl12, nl13, nl14, nl15, nl16, nl17, nl18, nl19, nl20, Nat.reduceAdd, Nat.reduceSub, Nat.reduceMul, Int.reduceLT, Int.reduceEq, Int.reduceSub, Int.reduceAdd, Int.reduceNeg, Int.reduceLE, Int.reduceMul, Int.reduceToNat, sz_le, sz_lt, Nat.reduceLeDiff, Nat.reduceLT, Bool.not_true, Bool.not_false, Bool.true_and, Bool.and_true, Bool.false_and, Bool.and_false, Bool.true_or, Bool.or_true, Bool.false_or, Bool.or_false, rite_and, rite_or, rb_and, rb_or, Bool.decide_eq_true, Bool.decide_and, Bool.decide_or, gAdd_LL, gAdd_Ll, gAdd_lL, gAdd_lst, gAdd_TT, map_sh_fz, map_fz_shL, List.length_map, gEq_bool, eq_self, forO_nil, forO_cons, lcR_nil, rng1R_ok, rng2R_ok])
local macro_rules | `(tactic| get_elem_tactic_trivial) => `(tactic| simp only [↓R.bind_ok, ↓R.bind_exc, ↓R.bind_stk, ↓O.bind_next, ↓O.bind_ret, ↓O.bind_exc, ↓O.bind_stk, R.bind_ok, R.bind_exc, R.bind_stk, O.bind_next, O.bind_ret, O.bind_exc, O.bind_stk, O.of_ok, O.of_exc, O.of_stk, O.fin_next, O.fin_ret, O.fin_exc, ofOR_some, ofPR_some, toBR_b, andR_b, orR_b, chR_b, iR_i, noX_ok, szR_lit, Option.isSome_some, Option.isSome_none, mutR_app, mutR_some, ownR_lst, ownR_dk, ownR_dt, itR_tup, itR_list, itR_lst, unT_l2, unT_l3, unT_l4, unT_l5, unT_l6, unT_l7, unL_l2, unL_l3, unL_l4, unL_l5, unL_l6, unL_l7, nd0, nd1, nd2, nd3, nd4, nd5, nd6, par2R_ok, gAdd_int, gII_ok, gI_int, gOrd_int, gEq_int, fz_sh, fz_lst, gNot_b, g1, g1_one, gi_int_none, gi_int_bool, gi_int_int, gi_int_str, gi_int_list, gi_int_tuple, gi_bool_none, gi_bool_bool, gi_bool_int, gi_bool_str, gi_bool_list, gi_bool_tuple, gi_str_none, gi_str_bool, gi_str_int, gi_str_str, gi_str_list, gi_str_tuple, gi_list_none, gi_list_bool, gi_list_int, gi_list_str, gi_list_list, gi_list_tuple, gi_tuple_none, gi_tuple_bool, gi_tuple_int, gi_tuple_str, gi_tuple_list, gi_tuple_tuple, gMax_two, mApp_ok, ownT_lst, dLen_list, dLen_tup, gSub_list, gSub_tup, gSub_lst, atI_l0, atI_l1, atI_l2, atI_l3, atI_l4, atI_l5, atI_l6, Option.map_some, dInt_b, dInt_i, dAbs_i, List.map_cons, List.map_nil, List.cons_append, List.nil_append, if_true, if_false, Bool.false_eq_true, decide_true, decide_false, Bool.false_xor, Bool.true_xor, decide_eq_true_eq, List.length_cons, List.length_nil, nl0, nl1, nl2, nl3, nl4, nl5, nl6, nl7, nl8, nl9, nl10, nl11, nl12, nl13, nl14, nl15, nl16, nl17, nl18, nl19, nl20, Nat.reduceAdd, Nat.reduceSub, Nat.reduceMul, Int.reduceLT, Int.reduceEq, Int.reduceSub, Int.reduceAdd, Int.reduceNeg, Int.reduceLE, Int.reduceMul, Int.reduceToNat, sz_le, sz_lt, Nat.reduceLeDiff, Nat.reduceLT, Bool.not_true, Bool.not_false, Bool.true_and, Bool.and_true, Bool.false_and, Bool.and_false, Bool.true_or, Bool.or_true, Bool.false_or, Bool.or_false, rite_and, rite_or, rb_and, rb_or, Bool.decide_eq_true, Bool.decide_and, Bool.decide_or, gAdd_LL, gAdd_Ll, gAdd_lL, gAdd_lst, gAdd_TT, map_sh_fz, map_fz_shL, List.length_map, gEq_bool, eq_self, forO_nil, forO_cons, lcR_nil, rng1R_ok, rng2R_ok, *])
abbrev bitD (s : Ship) : PyData := .int ((sumB s.cells : Nat) : Int)
theorem InB.cons {c : Cell} {S : List Cell} (hc : InB c) (hS : ∀ q ∈ S, InB q) : ∀ q ∈ c :: S, InB q := fun q hq => by
  rcases List.mem_cons.mp hq with rfl | hq
  · exact hc
  · exact hS q hq
theorem gAnd_n {a b : Nat} : gAndI (.sh (.int (a : Nat))) (.sh (.int (b : Nat))) = some (.sh (.int ((a &&& b : Nat) : Int))) := by rw [← and_int]; exact gII_ok rfl
theorem gOr_n {a b : Nat} : gOrI (.sh (.int (a : Nat))) (.sh (.int (b : Nat))) = some (.sh (.int ((a ||| b : Nat) : Int))) := by rw [← or_int]; exact gII_ok rfl
theorem gAndNot_n {a b : Nat} : gAndI (.sh (.int (a : Nat))) (.sh (.int (Builtin.bitNot ((b : Nat) : Int)))) = some (.sh (.int ((a : Int) - ((a &&& b : Nat) : Int)))) := by rw [← andNot_int]; exact gII_ok rfl
theorem answer_turn {s : Ship} {shot : List Cell} {n : Nat} {c : Cell} {v : OV} (hs : s.inB) (hn : Bits n shot) (hS : ∀ q ∈ shot, InB q) (hc : InB c) (hv : fz v = .int ((2 ^ bx c : Nat) : Int)) :
    q_answer_of_1 (.int (n : Nat)) v (bitD s) () = if decide (c ∈ s.cells) = true then .ret (.sh (if sinkB s (c :: shot) = true then Ans.sunk else Ans.hit).d) else .next () := by
  have b := bits_ship hs
  have e1 := and_bit b hs.2 hc
  have b2 := (Bits.one c).or hn
  have e2 := sub_bits b b2 hs.2 (hc.cons hS)
  have e2 : decide (((sumB s.cells : Nat) : Int) - ((sumB s.cells &&& (n ||| 2 ^ bx c) : Nat) : Int) = 0) = sinkB s (c :: shot) := by
    rw [Nat.or_comm n]; exact e2
  have e1 : (Builtin.bitAnd ((sumB s.cells : Nat) : Int) ((2 ^ bx c : Nat) : Int) = 0) = (decide (c ∈ s.cells) = false) := by
    rw [and_int]
    refine propext ⟨fun h => ?_, fun h => ?_⟩
    · rw [h] at e1; simpa using e1
    · rw [h] at e1; simpa using e1
  have e3 : (Builtin.bitAnd ((sumB s.cells : Nat) : Int) (Builtin.bitNot ((n ||| 2 ^ bx c : Nat) : Int)) = 0) = (sinkB s (c :: shot) = true) := by
    rw [andNot_int]
    refine propext ⟨fun h => ?_, fun h => ?_⟩
    · rw [← e2]; simpa using h
    · rw [h] at e2; simpa using e2
  have g2 := or_int n (2 ^ bx c)
  unfold bitD
  generalize sinkB s (c :: shot) = sk at *
  generalize decide (c ∈ s.cells) = mm at *
  generalize sumB s.cells = N at *
  generalize 2 ^ bx c = B at *
  clear hs hn hS hc b b2 e2
  unfold q_answer_of_1 Ans.d Ans.s
  cases mm <;> cases sk <;> (try simp only [Bool.true_eq_false, Bool.false_eq_true] at e1 e3) <;> get_elem_tactic_trivial
theorem answer_q {h : Hid} {shot : List Cell} {n : Nat} {c : Cell} (hh : ∀ s ∈ h, s.inB) (hn : Bits n shot) (hS : ∀ q ∈ shot, InB q) (hc : InB c) :
    q_answer_of [.list (h.map bitD), .int (n : Nat), cD c] = .ok (.sh (ansOf h shot c).d) := by
  have b := bit_q hc
  have t := forO_search (f := fun x s => q_answer_of_1 (.int (n : Nat)) (.sh (.int ((2 ^ bx c : Nat) : Int))) x s) (s := ()) bitD (fun s => decide (c ∈ s.cells)) (fun s => .sh (if sinkB s (c :: shot) = true then Ans.sunk else Ans.hit).d) h fun s hs => answer_turn (hh s hs) hn hS hc fz_sh
  unfold ansOf
  unfold q_answer_of q_answer_of_0
  clear hh hn hS hc
  cases e : h.find? fun s => decide (c ∈ s.cells) with
  | none => rw [e] at t; clear e; simp only [Ans.d, Ans.s] at *; get_elem_tactic_trivial
  | some s => rw [e] at t; clear e; simp only at t ⊢; get_elem_tactic_trivial
theorem answers_loop {h : Hid} {v : OV} (hh : ∀ s ∈ h, s.inB) (hv : fz v = .list (h.map bitD)) : ∀ (cs : List Cell) (shot : List Cell) (n : Nat) (acc : List Ans), Bits n shot → (∀ q ∈ shot, InB q) → (∀ q ∈ cs, InB q) → acc.length + cs.length ≤ 1000 →
    ∃ m : Nat, forO (cs.map cD) (fun x s => q_answers_of_1 v x s) (.sh (.int (n : Nat)), shL Ans.d acc) = .next (.sh (.int (m : Nat)), shL Ans.d (acc ++ ansL h shot cs))
  | [], shot, n, acc, _, _, _, _ => ⟨n, by rw [List.map_nil, forO_nil, ansL, List.append_nil]⟩
  | c :: cs, shot, n, acc, hn, hS, hC, hl => by
    have hc := hC c List.mem_cons_self
    rw [List.length_cons] at hl
    obtain ⟨m, hm⟩ := answers_loop hh hv cs (c :: shot) (n ||| 2 ^ bx c) (acc ++ [ansOf h shot c]) (by rw [Nat.or_comm]; exact (Bits.one c).or hn) (hc.cons hS) (fun q hq => hC q (List.mem_cons_of_mem _ hq)) (by rw [List.length_append, List.length_singleton]; omega)
    refine ⟨m, ?_⟩
    have a := answer_q hh hn hS hc
    have b := bit_q hc
    have ap := mutR_some (app_shL (en := Ans.d) (a := acc) (c := ansOf h shot c) (by rw [sizeLine_eq]; omega))
    have g2 := gOr_n (a := n) (b := 2 ^ bx c)
    have turn : q_answers_of_1 v (cD c) (.sh (.int (n : Nat)), shL Ans.d acc) = .next (.sh (.int ((n ||| 2 ^ bx c : Nat) : Int)), shL Ans.d (acc ++ [ansOf h shot c])) := by
      generalize ansOf h shot c = w at *
      generalize 2 ^ bx c = B at *
      clear hm hn hS hC hc hl hh
      unfold q_answers_of_1
      get_elem_tactic_trivial
    rw [List.map_cons, forO_cons, turn, O.bind_next, hm, ansL, List.append_assoc]
    rfl
theorem answers_q {h : Hid} {cs : List Cell} (hh : ∀ s ∈ h, s.inB) (hl : h.length ≤ 1000) (hC : ∀ q ∈ cs, InB q) (hc : cs.length ≤ 1000) : q_answers_of [hD h, .list (cs.map cD)] = .ok (shL Ans.d (ansL h [] cs)) := by
  obtain ⟨m, hm⟩ := answers_loop (v := shL bitD h) hh fz_shL cs [] 0 [] Bits.nil (by simp) hC (by simpa using hc)
  have z := szR_le (n := h.length) (x := shL bitD h) (by rw [sizeLine_eq]; omega)
  have lc : ∀ g : PyData → Ev.R (Option OV), (∀ s ∈ h, g s.d = .ok (some (.sh (bitD s)))) → lcR g (h.map Ship.d) = .ok (h.map fun s => .sh (bitD s)) := fun g hg => lcR_map _ _ _ hg
  have s1 : OV.lst (h.map fun s => .sh (bitD s)) = shL bitD h := rfl
  have it : itR (.sh (hD h)) = .ok (h.map Ship.d) := by unfold hD; exact itR_tup
  have s0 : (OV.lst [] : OV) = shL Ans.d [] := rfl
  have s2 : ((0 : Nat) : Int) = 0 := rfl
  rw [s2] at hm
  rw [List.nil_append] at hm
  unfold q_answers_of q_answers_of_0
  clear hl hC hc
  decreasing_trivial_pre_omega
  rw [it]
  decreasing_trivial_pre_omega
  rw [lc _ fun s hs => by rw [bits_of_q (hh s hs)]; decreasing_trivial_pre_omega]
  clear hh lc
  decreasing_trivial_pre_omega
  rw [s1, z]
  decreasing_trivial_pre_omega
  rw [s0, hm]
  decreasing_trivial_pre_omega
end Com
namespace Com
open PySem PySem.Spec L2 Ev
open PyProof.Rows hiding St
local macro_rules | `(tactic| decreasing_trivial_pre_omega) => `(tactic| simp only [↓R.bind_ok, ↓R.bind_exc, ↓R.bind_stk, ↓O.bind_next, ↓O.bind_ret, ↓O.bind_exc, ↓O.bind_stk, R.bind_ok, R.bind_exc, R.bind_stk, O.bind_next, O.bind_ret, O.bind_exc, O.bind_stk, O.of_ok, O.of_exc, O.of_stk, O.fin_next, O.fin_ret, O.fin_exc, ofOR_some, ofPR_some, toBR_b, andR_b, orR_b, chR_b, iR_i, noX_ok, szR_lit, Option.isSome_some, Option.isSome_none, mutR_app, mutR_some, ownR_lst, ownR_dk, ownR_dt, itR_tup, itR_list, itR_lst, unT_l2, unT_l3, unT_l4, unT_l5, unT_l6, unT_l7, unL_l2, unL_l3, unL_l4, unL_l5, unL_l6, unL_l7, nd0, nd1, nd2, nd3, nd4, nd5, nd6, par2R_ok, gAdd_int, gII_ok, gI_int, gOrd_int, gEq_int, fz_sh, fz_lst, gNot_b, g1, g1_one, gi_int_none, gi_int_bool, gi_int_int, gi_int_str, gi_int_list, gi_int_tuple, gi_bool_none, gi_bool_bool, gi_bool_int, gi_bool_str, gi_bool_list, gi_bool_tuple, gi_str_none, gi_str_bool, gi_str_int, gi_str_str, gi_str_list, gi_str_tuple, gi_list_none, gi_list_bool, gi_list_int, gi_list_str, gi_list_list, gi_list_tuple, gi_tuple_none, gi_tuple_bool, gi_tuple_int, gi_tuple_str, gi_tuple_list, gi_tuple_tuple, gMax_two, mApp_ok, ownT_lst, dLen_list, dLen_tup, gSub_list, gSub_tup, gSub_lst, atI_l0, atI_l1, atI_l2, atI_l3, atI_l4, atI_l5, atI_l6, Option.map_some, dInt_b, dInt_i, dAbs_i, List.map_cons, List.map_nil, List.cons_append, List.nil_append, if_true, if_false, Bool.false_eq_true, decide_true, decide_false, Bool.false_xor, Bool.true_xor, decide_eq_true_eq, List.length_cons, List.length_nil, nl0, nl1, nl2, nl3, nl4, nl5, nl6, nl7, nl8, nl9, nl10, nl11, nl12, nl13, nl14, nl15, nl16, nl17, nl18, nl19, nl20, Nat.reduceAdd, Nat.reduceSub, Nat.reduceMul, Int.reduceLT, Int.reduceEq, Int.reduceSub, Int.reduceAdd, Int.reduceNeg, Int.reduceLE, Int.reduceMul, Int.reduceToNat, sz_le, sz_lt, Nat.reduceLeDiff, Nat.reduceLT, Bool.not_true, Bool.not_false, Bool.true_and, Bool.and_true, Bool.false_and, Bool.and_false, Bool.true_or, Bool.or_true, Bool.false_or, Bool.or_false, rite_and, rite_or, rb_and, rb_or, Bool.decide_eq_true, Bool.decide_and, Bool.decide_or, gAdd_LL, gAdd_Ll, gAdd_lL, gAdd_lst, gAdd_TT, map_sh_fz, map_fz_shL, List.length_map, gEq_bool, eq_self, forO_nil, forO_cons, lcR_nil, rng1R_ok, rng2R_ok])
local macro_rules | `(tactic| get_elem_tactic_trivial) => `(tactic| simp only [↓R.bind_ok, ↓R.bind_exc, ↓R.bind_stk, ↓O.bind_next, ↓O.bind_ret, ↓O.bind_exc, ↓O.bind_stk, R.bind_ok, R.bind_exc, R.bind_stk, O.bind_next, O.bind_ret, O.bind_exc, O.bind_stk, O.of_ok, O.of_exc, O.of_stk, O.fin_next, O.fin_ret, O.fin_exc, ofOR_some, ofPR_some, toBR_b, andR_b, orR_b, chR_b, iR_i, noX_ok, szR_lit, Option.isSome_some, Option.isSome_none, mutR_app, mutR_some, ownR_lst, ownR_dk, ownR_dt, itR_tup, itR_list, itR_lst, unT_l2, unT_l3, unT_l4, unT_l5, unT_l6, unT_l7, unL_l2, unL_l3, unL_l4, unL_l5, unL_l6, unL_l7, nd0, nd1, nd2, nd3, nd4, nd5, nd6, par2R_ok, gAdd_int, gII_ok, gI_int, gOrd_int, gEq_int, fz_sh, fz_lst, gNot_b, g1, g1_one, gi_int_none, gi_int_bool, gi_int_int, gi_int_str, gi_int_list, gi_int_tuple, gi_bool_none, gi_bool_bool, gi_bool_int, gi_bool_str, gi_bool_list, gi_bool_tuple, gi_str_none, gi_str_bool, gi_str_int, gi_str_str, gi_str_list, gi_str_tuple, gi_list_none, gi_list_bool, gi_list_int, gi_list_str, gi_list_list, gi_list_tuple, gi_tuple_none, gi_tuple_bool, gi_tuple_int, gi_tuple_str, gi_tuple_list, gi_tuple_tuple, gMax_two, mApp_ok, ownT_lst, dLen_list, dLen_tup, gSub_list, gSub_tup, gSub_lst, atI_l0, atI_l1, atI_l2, atI_l3, atI_l4, atI_l5, atI_l6, Option.map_some, dInt_b, dInt_i, dAbs_i, List.map_cons, List.map_nil, List.cons_append, List.nil_append, if_true, if_false, Bool.false_eq_true, decide_true, decide_false, Bool.false_xor, Bool.true_xor, decide_eq_true_eq, List.length_cons, List.length_nil, nl0, nl1, nl2, nl3, nl4, nl5, nl6, nl7, nl8, nl9, nl10, nl11, nl12, nl13, nl14, nl15, nl16, nl17, nl18, nl19, nl20, Nat.reduceAdd, Nat.reduceSub, Nat.reduceMul, Int.reduceLT, Int.reduceEq, Int.reduceSub, Int.reduceAdd, Int.reduceNeg, Int.reduceLE, Int.reduceMul, Int.reduceToNat, sz_le, sz_lt, Nat.reduceLeDiff, Nat.reduceLT, Bool.not_true, Bool.not_false, Bool.true_and, Bool.and_true, Bool.false_and, Bool.and_false, Bool.true_or, Bool.or_true, Bool.false_or, Bool.or_false, rite_and, rite_or, rb_and, rb_or, Bool.decide_eq_true, Bool.decide_and, Bool.decide_or, gAdd_LL, gAdd_Ll, gAdd_lL, gAdd_lst, gAdd_TT, map_sh_fz, map_fz_shL, List.length_map, gEq_bool, eq_self, forO_nil, forO_cons, lcR_nil, rng1R_ok, rng2R_ok, *])
abbrev Rec := List (Cell × Ans)
def rD (q : Cell × Ans) : PyData := .tuple [cD q.1, q.2.d]
theorem EqE.row : EqE rD 2 := (EqE.cell.pair EqE.ans)
def fitB (h : Hid) (r : Rec) : Bool := decide (ansL h [] (r.map (·.1)) = r.map (·.2))
theorem cols_q {g : PyData → Ev.R (Option OV)} {f : Cell × Ans → OV} (r : Rec) (hg : ∀ q ∈ r, g (rD q) = .ok (some (f q))) : lcR g (r.map rD) = .ok (r.map f) := lcR_map _ _ _ hg
theorem fits_q {h : Hid} {r : Rec} (hh : ∀ s ∈ h, s.inB) (hl : h.length ≤ 1000) (hC : ∀ q ∈ r, InB q.1) (hc : r.length ≤ 1000) : q_fits [hD h, .list (r.map rD)] = .ok (.sh (.bool (fitB h r))) := by
  have a := answers_q hh hl (cs := r.map (·.1)) (fun q hq => by obtain ⟨z, hz, rfl⟩ := List.mem_map.mp hq; exact hC z hz) (by simpa using hc)
  have z := fun (f : Cell × Ans → OV) => szR_le (n := r.length) (x := OV.lst (r.map f)) (by rw [sizeLine_eq]; omega)
  have s1 : OV.lst (r.map fun q => .sh (cD q.1)) = shL cD (r.map (·.1)) := by unfold shL; rw [List.map_map]; rfl
  have s2 : OV.lst (r.map fun q => .sh q.2.d) = shL Ans.d (r.map (·.2)) := by unfold shL; rw [List.map_map]; rfl
  have z1 := z fun q => .sh (cD q.1)
  have z2 := z fun q => .sh q.2.d
  rw [s1] at z1
  rw [s2] at z2
  have e := EqE.ans.eqL (by decide) (neg := false) (xs := ansL h [] (r.map (·.1))) (ys := r.map (·.2))
  rw [Bool.false_xor] at e
  clear hh hl hC hc z
  unfold q_fits q_fits_0
  decreasing_trivial_pre_omega
  rw [cols_q (f := fun q => .sh (cD q.1)) r fun q _ => by unfold rD; decreasing_trivial_pre_omega]
  decreasing_trivial_pre_omega
  rw [s1, z1]
  decreasing_trivial_pre_omega
  rw [a]
  decreasing_trivial_pre_omega
  rw [cols_q (f := fun q => .sh q.2.d) r fun q _ => by unfold rD; decreasing_trivial_pre_omega]
  decreasing_trivial_pre_omega
  rw [s2, z2]
  decreasing_trivial_pre_omega
  rw [e]
  decreasing_trivial_pre_omega
  rfl
/-! as the law counts it -/
def leftN (s : Ship) (shot : List Cell) : Nat := (s.cells.filter fun p => !decide (p ∈ shot)).length
theorem leftN_nil (s : Ship) : leftN s [] = s.n := by
  unfold leftN
  rw [← len_cells s]
  congr 1
  rw [List.filter_eq_self]
  simp
theorem leftN_cons {s : Ship} {shot : List Cell} {c : Cell} (hc : c ∉ shot) : leftN s (c :: shot) + (if c ∈ s.cells then 1 else 0) = leftN s shot := by
  unfold leftN
  have nd := cells_nodup s
  generalize s.cells = S at *
  induction S with
  | nil => rfl
  | cons p S ih =>
    rw [List.nodup_cons] at nd
    have ih := ih nd.2
    by_cases e : p = c
    · subst e
      have e2 : ∀ T : List Cell, p ∉ T → (T.filter fun q => !decide (q ∈ p :: shot)) = T.filter fun q => !decide (q ∈ shot) := fun T hT => by
        apply List.filter_congr
        intro q hq
        have : q ≠ p := fun z => hT (z ▸ hq)
        simp [this]
      rw [List.filter_cons, List.filter_cons, e2 S nd.1]
      simp [hc]
    · have e3 : (c ∈ p :: S) ↔ c ∈ S := by simp [Ne.symm e]
      rw [List.filter_cons, List.filter_cons]
      simp only [e3]
      by_cases h : p ∈ shot
      · have f1 : (!decide (p ∈ c :: shot)) = false := by simp [h]
        have f2 : (!decide (p ∈ shot)) = false := by simp [h]
        simp only [f1, f2, Bool.false_eq_true, if_false]
        exact ih
      · have f1 : (!decide (p ∈ c :: shot)) = true := by simp [h, e]
        have f2 : (!decide (p ∈ shot)) = true := by simp [h]
        simp only [f1, f2, if_true, List.length_cons]
        generalize (if c ∈ S then 1 else 0) = w at *
        omega
theorem sink_left {s : Ship} {shot : List Cell} : sinkB s shot = decide (leftN s shot = 0) := by
  unfold sinkB leftN
  rw [Bool.eq_iff_iff, List.all_eq_true, decide_eq_true_eq, List.length_eq_zero_iff, List.filter_eq_nil_iff]
  simp
end Com
namespace Com
open PySem PySem.Spec L2 Ev
open PyProof.Rows hiding St
local macro_rules | `(tactic| decreasing_trivial_pre_omega) => `(tactic| simp only [↓R.bind_ok, ↓R.bind_exc, ↓R.bind_stk, ↓O.bind_next, ↓O.bind_ret, ↓O.bind_exc, ↓O.bind_stk, R.bind_ok, R.bind_exc, R.bind_stk, O.bind_next, O.bind_ret, O.bind_exc, O.bind_stk, O.of_ok, O.of_exc, O.of_stk, O.fin_next, O.fin_ret, O.fin_exc, ofOR_some, ofPR_some, toBR_b, andR_b, orR_b, chR_b, iR_i, noX_ok, szR_lit, Option.isSome_some, Option.isSome_none, mutR_app, mutR_some, ownR_lst, ownR_dk, ownR_dt, itR_tup, itR_list, itR_lst, unT_l2, unT_l3, unT_l4, unT_l5, unT_l6, unT_l7, unL_l2, unL_l3, unL_l4, unL_l5, unL_l6, unL_l7, nd0, nd1, nd2, nd3, nd4, nd5, nd6, par2R_ok, gAdd_int, gII_ok, gI_int, gOrd_int, gEq_int, fz_sh, fz_lst, gNot_b, g1, g1_one, gi_int_none, gi_int_bool, gi_int_int, gi_int_str, gi_int_list, gi_int_tuple, gi_bool_none, gi_bool_bool, gi_bool_int, gi_bool_str, gi_bool_list, gi_bool_tuple, gi_str_none, gi_str_bool, gi_str_int, gi_str_str, gi_str_list, gi_str_tuple, gi_list_none, gi_list_bool, gi_list_int, gi_list_str, gi_list_list, gi_list_tuple, gi_tuple_none, gi_tuple_bool, gi_tuple_int, gi_tuple_str, gi_tuple_list, gi_tuple_tuple, gMax_two, mApp_ok, ownT_lst, dLen_list, dLen_tup, gSub_list, gSub_tup, gSub_lst, atI_l0, atI_l1, atI_l2, atI_l3, atI_l4, atI_l5, atI_l6, Option.map_some, dInt_b, dInt_i, dAbs_i, List.map_cons, List.map_nil, List.cons_append, List.nil_append, if_true, if_false, Bool.false_eq_true, decide_true, decide_false, Bool.false_xor, Bool.true_xor, decide_eq_true_eq, List.length_cons, List.length_nil, nl0, nl1, nl2, nl3, nl4, nl5, nl6, nl7, nl8, nl9, nl10, nl11, nl12, nl13, nl14, nl15, nl16, nl17, nl18, nl19, nl20, Nat.reduceAdd, Nat.reduceSub, Nat.reduceMul, Int.reduceLT, Int.reduceEq, Int.reduceSub, Int.reduceAdd, Int.reduceNeg, Int.reduceLE, Int.reduceMul, Int.reduceToNat, sz_le, sz_lt, Nat.reduceLeDiff, Nat.reduceLT, Bool.not_true, Bool.not_false, Bool.true_and, Bool.and_true, Bool.false_and, Bool.and_false, Bool.true_or, Bool.or_true, Bool.false_or, Bool.or_false, rite_and, rite_or, rb_and, rb_or, Bool.decide_eq_true, Bool.decide_and, Bool.decide_or, gAdd_LL, gAdd_Ll, gAdd_lL, gAdd_lst, gAdd_TT, map_sh_fz, map_fz_shL, List.length_map, gEq_bool, eq_self, forO_nil, forO_cons, lcR_nil, rng1R_ok, rng2R_ok])
local macro_rules | `(tactic| get_elem_tactic_trivial) => `(tactic| simp only [↓R.bind_ok, ↓R.bind_exc, ↓R.bind_stk, ↓O.bind_next, ↓O.bind_ret, ↓O.bind_exc, ↓O.bind_stk, R.bind_ok, R.bind_exc, R.bind_stk, O.bind_next, O.bind_ret, O.bind_exc, O.bind_stk, O.of_ok, O.of_exc, O.of_stk, O.fin_next, O.fin_ret, O.fin_exc, ofOR_some, ofPR_some, toBR_b, andR_b, orR_b, chR_b, iR_i, noX_ok, szR_lit, Option.isSome_some, Option.isSome_none, mutR_app, mutR_some, ownR_lst, ownR_dk, ownR_dt, itR_tup, itR_list, itR_lst, unT_l2, unT_l3, unT_l4, unT_l5, unT_l6, unT_l7, unL_l2, unL_l3, unL_l4, unL_l5, unL_l6, unL_l7, nd0, nd1, nd2, nd3, nd4, nd5, nd6, par2R_ok, gAdd_int, gII_ok, gI_int, gOrd_int, gEq_int, fz_sh, fz_lst, gNot_b, g1, g1_one, gi_int_none, gi_int_bool, gi_int_int, gi_int_str, gi_int_list, gi_int_tuple, gi_bool_none, gi_bool_bool, gi_bool_int, gi_bool_str, gi_bool_list, gi_bool_tuple, gi_str_none, gi_str_bool, gi_str_int, gi_str_str, gi_str_list, gi_str_tuple, gi_list_none, gi_list_bool, gi_list_int, gi_list_str, gi_list_list, gi_list_tuple, gi_tuple_none, gi_tuple_bool, gi_tuple_int, gi_tuple_str, gi_tuple_list, gi_tuple_tuple, gMax_two, mApp_ok, ownT_lst, dLen_list, dLen_tup, gSub_list, gSub_tup, gSub_lst, atI_l0, atI_l1, atI_l2, atI_l3, atI_l4, atI_l5, atI_l6, Option.map_some, dInt_b, dInt_i, dAbs_i, List.map_cons, List.map_nil, List.cons_append, List.nil_append, if_true, if_false, Bool.false_eq_true, decide_true, decide_false, Bool.false_xor, Bool.true_xor, decide_eq_true_eq, List.length_cons, List.length_nil, nl0, nl1, nl2, nl3, nl4, nl5, nl6, nl7, nl8, nl9, nl10, nl11, nl12, nl13, nl14, nl15, nl16, nl17, nl18, nl19, nl20, Nat.reduceAdd, Nat.reduceSub, Nat.reduceMul, Int.reduceLT, Int.reduceEq, Int.reduceSub, Int.reduceAdd, Int.reduceNeg, Int.reduceLE, Int.reduceMul, Int.reduceToNat, sz_le, sz_lt, Nat.reduceLeDiff, Nat.reduceLT, Bool.not_true, Bool.not_false, Bool.true_and, Bool.and_true, Bool.false_and, Bool.and_false, Bool.true_or, Bool.or_true, Bool.false_or, Bool.or_false, rite_and, rite_or, rb_and, rb_or, Bool.decide_eq_true, Bool.decide_and, Bool.decide_or, gAdd_LL, gAdd_Ll, gAdd_lL, gAdd_lst, gAdd_TT, map_sh_fz, map_fz_shL, List.length_map, gEq_bool, eq_self, forO_nil, forO_cons, lcR_nil, rng1R_ok, rng2R_ok, *])
def Apart (h : Hid) : Prop := h.Pairwise fun s t => ∀ p ∈ s.cells, p ∉ t.cells
def leftL (h : Hid) (k : Nat) (shot : List Cell) (c : Cell) : List Nat := (h.take k).map (leftN · (c :: shot)) ++ (h.drop k).map (leftN · shot)
theorem leftL_0 (h : Hid) (shot : List Cell) (c : Cell) : leftL h 0 shot c = h.map (leftN · shot) := by unfold leftL; simp
theorem leftL_end (h : Hid) (shot : List Cell) (c : Cell) : leftL h h.length shot c = h.map (leftN · (c :: shot)) := by unfold leftL; simp
theorem leftL_at {h : Hid} {k : Nat} {s : Ship} {shot : List Cell} {c : Cell} (hk : h[k]? = some s) : (leftL h k shot c)[k]? = some (leftN s shot) := by
  have hl := (List.getElem?_eq_some_iff.mp hk).1
  unfold leftL
  rw [List.getElem?_append_right (by simp; omega)]
  simp only [List.length_map, List.length_take, List.getElem?_map, List.getElem?_drop]
  rw [show k + (k - min k h.length) = k by omega, hk]; rfl
theorem leftL_set {h : Hid} {k : Nat} {s : Ship} {shot : List Cell} {c : Cell} (hk : h[k]? = some s) : (leftL h k shot c).set k (leftN s (c :: shot)) = leftL h (k + 1) shot c := by
  have hl := (List.getElem?_eq_some_iff.mp hk).1
  have hs := (List.getElem?_eq_some_iff.mp hk).2
  unfold leftL
  rw [List.set_append_right _ _ (by simp; omega), List.drop_eq_getElem_cons hl, hs, List.take_succ, hk]
  simp only [List.length_map, List.length_take, List.map_append, List.map_cons]
  rw [show k - min k h.length = 0 by omega, List.set_cons_zero]
  simp
theorem leftL_same {h : Hid} {k : Nat} {s : Ship} {shot : List Cell} {c : Cell} (hk : h[k]? = some s) (hc : c ∉ s.cells) (hn : c ∉ shot) : leftL h (k + 1) shot c = leftL h k shot c := by
  rw [← leftL_set hk]
  have e := leftN_cons (s := s) hn
  rw [if_neg hc, Nat.add_zero] at e
  rw [e]
  exact set_at (leftL_at hk)
theorem ansOf_take {h : Hid} {k : Nat} {s : Ship} {shot : List Cell} {c : Cell} (ha : Apart h) (hk : h[k]? = some s) :
    ansOf (h.take (k + 1)) shot c = if c ∈ s.cells then (if sinkB s (c :: shot) = true then .sunk else .hit) else ansOf (h.take k) shot c := by
  have hl := (List.getElem?_eq_some_iff.mp hk).1
  have hs := (List.getElem?_eq_some_iff.mp hk).2
  rw [List.take_succ, hk]
  unfold ansOf
  rw [List.find?_append]
  by_cases hc : c ∈ s.cells
  · have : (h.take k).find? (fun s => decide (c ∈ s.cells)) = none := by
      rw [List.find?_eq_none]
      intro t ht
      obtain ⟨i, hi⟩ := List.mem_iff_getElem?.mp ht
      rw [List.getElem?_take] at hi
      have ik : i < k := by
        by_cases q : i < k
        · exact q
        · rw [if_neg q] at hi; cases hi
      rw [if_pos ik] at hi
      obtain ⟨hl2, hi2⟩ := List.getElem?_eq_some_iff.mp hi
      have := List.pairwise_iff_getElem.mp ha i k hl2 hl ik
      rw [hi2, hs] at this
      intro z
      rw [decide_eq_true_eq] at z
      exact this c z hc
    rw [this]
    simp [hc]
  · simp [hc]
theorem setL {os : List OV} {i : Int} {o : OV} (h0 : 0 ≤ i) (h1 : i < (os.length : Nat)) : setR (.lst os) (.sh (.int i)) o = .ok (.lst (os.set i.toNat o)) := by
  obtain ⟨j, rfl⟩ := nat_of h0
  have e : setO (.lst os) (.int (j : Nat)) o = some (.lst (os.set j o)) := by
    unfold setO
    simp only
    rw [ixN_of (by omega)]; rfl
  unfold setR
  rw [fz_sh, e]
  rfl
theorem grounds_at {h : Hid} {k : Nat} {s : Ship} (hk : h[k]? = some s) : atI (h.map fun s => PyData.list (s.cells.map cD)) (k : Nat) = some (.list (s.cells.map cD)) := atI_nat (by rw [List.getElem?_map, hk]; rfl)
theorem gSubP_nat {L : List Nat} {k n : Nat} (h : L[k]? = some n) : gSubP (.list (L.map nD)) (.int (k : Nat)) = some (nD n) := by
  have : atI (L.map nD) (k : Nat) = some (nD n) := atI_nat (by rw [List.getElem?_map, h]; rfl)
  unfold gSubP gSubD
  simp only [this]
  rfl
theorem setN {L : List Nat} {k n : Nat} (h : k < L.length) : setR (shL nD L) (.sh (.int (k : Nat))) (.sh (nD n)) = .ok (shL nD (L.set k n)) := by
  unfold shL
  rw [setL (by omega) (by rw [List.length_map]; omega), Int.toNat_natCast, List.map_set]
theorem lawans1 {h : Hid} {k : Nat} {s : Ship} {shot : List Cell} {c : Cell} {v : OV} (ha : Apart h) (hk : h[k]? = some s) (hn : c ∉ shot) (hv : fz v = .list (h.map fun s => .list (s.cells.map cD))) :
    q__law_answers_1 v (cD c) (.int (k : Nat)) (shL nD (leftL h k shot c), .sh (ansOf (h.take k) shot c).d) = .next (shL nD (leftL h (k + 1) shot c), .sh (ansOf (h.take (k + 1)) shot c).d) := by
  have hl := (List.getElem?_eq_some_iff.mp hk).1
  have ga := grounds_at hk
  have gi := EqE.cell.inL (by decide) (neg := false) (x := c) (xs := s.cells) (a := .sh (cD c)) (b := .sh (.list (s.cells.map cD))) fz_sh fz_sh
  rw [Bool.false_xor] at gi
  have at0 := leftL_at (shot := shot) (c := c) hk
  have lset := leftL_set (shot := shot) (c := c) hk
  have lsame := fun h1 => leftL_same (shot := shot) (c := c) hk h1 hn
  have lc := leftN_cons (s := s) hn
  have an := ansOf_take (shot := shot) (c := c) ha hk
  have sl := sink_left (s := s) (shot := c :: shot)
  have ml := fun L => fz_shL (e := nD) (xs := L)
  have g3 := gSubP_nat at0
  rw [an]
  by_cases hc : c ∈ s.cells
  · rw [if_pos hc] at lc ⊢
    have dc : decide (c ∈ s.cells) = true := decide_eq_true hc
    have i1 : ((leftN s shot : Nat) : Int) - 1 = (leftN s (c :: shot) : Nat) := by omega
    have st := setN (L := leftL h k shot c) (k := k) (n := leftN s (c :: shot)) ((List.getElem?_eq_some_iff.mp at0).1)
    rw [lset] at st
    have at1 : (leftL h (k + 1) shot c)[k]? = some (leftN s (c :: shot)) := by
      rw [← lset, List.getElem?_set_self ((List.getElem?_eq_some_iff.mp at0).1)]
    have g4 := gSubP_nat at1
    have z0 : (((leftN s (c :: shot) : Nat) : Int) = 0) = (sinkB s (c :: shot) = true) := by
      rw [sl]
      refine propext ⟨fun h => ?_, fun h => ?_⟩
      · rw [decide_eq_true_eq]; omega
      · rw [decide_eq_true_eq] at h; omega
    have d1 : ∀ b : Bool, dInt (.bool b) = some (.sh (.int (if b = true then 1 else 0))) := fun b => by cases b <;> rfl
    generalize leftL h k shot c = L0 at *
    generalize leftL h (k + 1) shot c = L1 at *
    generalize leftN s (c :: shot) = n1 at *
    generalize leftN s shot = n0 at *
    generalize sinkB s (c :: shot) = sk at *
    clear an sl lset lsame at0 at1 lc ha hk hl
    unfold q__law_answers_1
    cases sk
    · get_elem_tactic_trivial
      rfl
    · get_elem_tactic_trivial
      rfl
  · rw [if_neg hc, lsame hc]
    have dc : decide (c ∈ s.cells) = false := decide_eq_false hc
    clear an sl lset lsame at0 lc ha hk hl
    unfold q__law_answers_1
    get_elem_tactic_trivial
theorem lawans2 {h : Hid} {shot : List Cell} {c : Cell} {v : OV} {acc : List Ans} (ha : Apart h) (hl : h.length ≤ 1000) (hn : c ∉ shot) (hv : fz v = .list (h.map fun s => .list (s.cells.map cD))) (hk : acc.length < 10000) :
    q__law_answers_2 (hD h) v (cD c) (shL nD (h.map (leftN · shot)), shL Ans.d acc) = .next (shL nD (h.map (leftN · (c :: shot))), shL Ans.d (acc ++ [ansOf h shot c])) := by
  obtain ⟨s', h1, h2⟩ := forO_inv (f := fun x s => q__law_answers_1 v (cD c) x s) (fun k s => k ≤ h.length ∧ s = (shL nD (leftL h k shot c), OV.sh (ansOf (h.take k) shot c).d)) ((List.range h.length).map fun z => .int ((z : Nat) : Int)) 0
    (shL nD (h.map (leftN · shot)), OV.sh (ansOf (h.take 0) shot c).d) ⟨Nat.zero_le _, by rw [leftL_0]⟩ (fun k d s hd hp => by
      obtain ⟨_, rfl⟩ := hp
      rw [List.getElem?_map] at hd
      obtain ⟨m, hm, rfl⟩ := Option.map_eq_some_iff.mp hd
      have hm2 := List.getElem?_eq_some_iff.mp hm
      have hlt := hm2.1
      have : m = k := by have := hm2.2; simpa using this.symm
      subst this
      rw [List.length_range] at hlt
      rw [Nat.zero_add]
      exact ⟨_, lawans1 ha (List.getElem?_eq_getElem hlt) hn hv, by omega, rfl⟩)
  obtain ⟨_, rfl⟩ := h2
  rw [List.length_map, List.length_range, Nat.zero_add, leftL_end, List.take_length] at h1
  have w : (ansOf (h.take 0) shot c).d = .str "water" := rfl
  rw [w] at h1
  have ln : ∀ os, os = [OV.sh (hD h)] → dLen (fz (OV.sh (hD h))) = some (.sh (.int (h.length : Nat))) := fun os _ => by unfold hD; rw [fz_sh, dLen_tup, List.length_map]
  have ln := ln _ rfl
  have ap := mutR_some (app_shL (en := Ans.d) (a := acc) (c := ansOf h shot c) (by rw [sizeLine_eq]; omega))
  have rg := rng1R_n (k := h.length) (by omega)
  rw [fz_sh] at ln
  generalize hD h = D at *
  clear ha hl hn hv hk w
  unfold q__law_answers_2
  get_elem_tactic_trivial
theorem lawans_loop {h : Hid} {v : OV} (ha : Apart h) (hl : h.length ≤ 1000) (hv : fz v = .list (h.map fun s => .list (s.cells.map cD))) : ∀ (cs shot : List Cell) (acc : List Ans), (∀ c ∈ cs, c ∉ shot) → cs.Nodup → acc.length + cs.length ≤ 1000 →
    ∃ L, forO (cs.map cD) (fun x s => q__law_answers_2 (hD h) v x s) (shL nD (h.map (leftN · shot)), shL Ans.d acc) = .next (L, shL Ans.d (acc ++ ansL h shot cs))
  | [], shot, acc, _, _, _ => ⟨_, by rw [List.map_nil, forO_nil, ansL, List.append_nil]⟩
  | c :: cs, shot, acc, hn, nd, hk => by
    rw [List.nodup_cons] at nd
    rw [List.length_cons] at hk
    obtain ⟨L, hL⟩ := lawans_loop ha hl hv cs (c :: shot) (acc ++ [ansOf h shot c]) (fun d hd hm => by
      rcases List.mem_cons.mp hm with rfl | hm
      · exact nd.1 hd
      · exact hn d (List.mem_cons_of_mem _ hd) hm) nd.2 (by rw [List.length_append, List.length_singleton]; omega)
    refine ⟨L, ?_⟩
    rw [List.map_cons, forO_cons, lawans2 ha hl (hn c List.mem_cons_self) hv (by omega), O.bind_next, hL, ansL, List.append_assoc]
    rfl
theorem law_answers_q {h : Hid} {cs : List Cell} (hs : ∀ s ∈ h, s.n ≤ 1000) (ha : Apart h) (hl : h.length ≤ 1000) (nd : cs.Nodup) (hc : cs.length ≤ 1000) : q__law_answers [hD h, .list (cs.map cD)] = .ok (shL Ans.d (ansL h [] cs)) := by
  have gf : fz (.lst (h.map fun s : Ship => shL cD s.cells)) = .list (h.map fun s => .list (s.cells.map cD)) := by
    rw [fz_lst, List.map_map]
    congr 1
    exact List.map_congr_left fun s _ => fz_shL
  obtain ⟨L, hL⟩ := lawans_loop ha hl gf cs [] [] (by simp) nd (by simpa using hc)
  rw [List.nil_append] at hL
  have l0 : (h.map fun s => leftN s []) = h.map (·.n) := List.map_congr_left fun s _ => leftN_nil s
  rw [l0] at hL
  have it : itR (.sh (hD h)) = .ok (h.map Ship.d) := by unfold hD; exact itR_tup
  have z := fun (f : Ship → OV) => szR_le (n := h.length) (x := OV.lst (h.map f)) (by rw [sizeLine_eq]; omega)
  have z1 := z fun s => .sh (nD s.n)
  have z2 := z fun s => shL cD s.cells
  have s1 : OV.lst (h.map fun s => .sh (nD s.n)) = shL nD (h.map (·.n)) := by unfold shL; rw [List.map_map]; rfl
  rw [s1] at z1
  have s0 : (OV.lst [] : OV) = shL Ans.d [] := rfl
  have lc : ∀ (f : Ship → OV) (g : PyData → Ev.R (Option OV)), (∀ s ∈ h, g s.d = .ok (some (f s))) → lcR g (h.map Ship.d) = .ok (h.map f) := fun f g hg => lcR_map _ _ _ hg
  have mc := fun s : Ship => fz_shL (e := cD) (xs := s.cells)
  have mm := fun s : Ship => map_fz_shL (e := cD) (xs := s.cells)
  clear hl nd hc z l0 ha gf
  unfold q__law_answers q__law_answers_0
  decreasing_trivial_pre_omega
  rw [it]
  decreasing_trivial_pre_omega
  rw [lc (fun s => .sh (nD s.n)) _ fun s h1 => by
    have a := law_cells_q (hs s h1)
    have b := len_cells s
    have c : dLen (fz (shL cD s.cells)) = some (.sh (.int (s.n : Nat))) := by rw [mc, dLen_list, List.length_map, len_cells]
    rw [mc] at c
    clear hs lc hL h1
    get_elem_tactic_trivial]
  decreasing_trivial_pre_omega
  rw [s1, z1]
  decreasing_trivial_pre_omega
  rw [lc (fun s => shL cD s.cells) _ fun s h1 => by
    have a := law_cells_q (hs s h1)
    clear hs lc hL h1
    get_elem_tactic_trivial]
  decreasing_trivial_pre_omega
  rw [z2]
  decreasing_trivial_pre_omega
  rw [s0, hL]
  decreasing_trivial_pre_omega
end Com
namespace Com
open PySem PySem.Spec L2 Ev
open PyProof.Rows hiding St
local macro_rules | `(tactic| decreasing_trivial_pre_omega) => `(tactic| simp only [↓R.bind_ok, ↓R.bind_exc, ↓R.bind_stk, ↓O.bind_next, ↓O.bind_ret, ↓O.bind_exc, ↓O.bind_stk, R.bind_ok, R.bind_exc, R.bind_stk, O.bind_next, O.bind_ret, O.bind_exc, O.bind_stk, O.of_ok, O.of_exc, O.of_stk, O.fin_next, O.fin_ret, O.fin_exc, ofOR_some, ofPR_some, toBR_b, andR_b, orR_b, chR_b, iR_i, noX_ok, szR_lit, Option.isSome_some, Option.isSome_none, mutR_app, mutR_some, ownR_lst, ownR_dk, ownR_dt, itR_tup, itR_list, itR_lst, unT_l2, unT_l3, unT_l4, unT_l5, unT_l6, unT_l7, unL_l2, unL_l3, unL_l4, unL_l5, unL_l6, unL_l7, nd0, nd1, nd2, nd3, nd4, nd5, nd6, par2R_ok, gAdd_int, gII_ok, gI_int, gOrd_int, gEq_int, fz_sh, fz_lst, gNot_b, g1, g1_one, gi_int_none, gi_int_bool, gi_int_int, gi_int_str, gi_int_list, gi_int_tuple, gi_bool_none, gi_bool_bool, gi_bool_int, gi_bool_str, gi_bool_list, gi_bool_tuple, gi_str_none, gi_str_bool, gi_str_int, gi_str_str, gi_str_list, gi_str_tuple, gi_list_none, gi_list_bool, gi_list_int, gi_list_str, gi_list_list, gi_list_tuple, gi_tuple_none, gi_tuple_bool, gi_tuple_int, gi_tuple_str, gi_tuple_list, gi_tuple_tuple, gMax_two, mApp_ok, ownT_lst, dLen_list, dLen_tup, gSub_list, gSub_tup, gSub_lst, atI_l0, atI_l1, atI_l2, atI_l3, atI_l4, atI_l5, atI_l6, Option.map_some, dInt_b, dInt_i, dAbs_i, List.map_cons, List.map_nil, List.cons_append, List.nil_append, if_true, if_false, Bool.false_eq_true, decide_true, decide_false, Bool.false_xor, Bool.true_xor, decide_eq_true_eq, List.length_cons, List.length_nil, nl0, nl1, nl2, nl3, nl4, nl5, nl6, nl7, nl8, nl9, nl10, nl11, nl12, nl13, nl14, nl15, nl16, nl17, nl18, nl19, nl20, Nat.reduceAdd, Nat.reduceSub, Nat.reduceMul, Int.reduceLT, Int.reduceEq, Int.reduceSub, Int.reduceAdd, Int.reduceNeg, Int.reduceLE, Int.reduceMul, Int.reduceToNat, sz_le, sz_lt, Nat.reduceLeDiff, Nat.reduceLT, Bool.not_true, Bool.not_false, Bool.true_and, Bool.and_true, Bool.false_and, Bool.and_false, Bool.true_or, Bool.or_true, Bool.false_or, Bool.or_false, rite_and, rite_or, rb_and, rb_or, Bool.decide_eq_true, Bool.decide_and, Bool.decide_or, gAdd_LL, gAdd_Ll, gAdd_lL, gAdd_lst, gAdd_TT, map_sh_fz, map_fz_shL, List.length_map, gEq_bool, eq_self, forO_nil, forO_cons, lcR_nil, rng1R_ok, rng2R_ok])
local macro_rules | `(tactic| get_elem_tactic_trivial) => `(tactic| simp only [↓R.bind_ok, ↓R.bind_exc, ↓R.bind_stk, ↓O.bind_next, ↓O.bind_ret, ↓O.bind_exc, ↓O.bind_stk, R.bind_ok, R.bind_exc, R.bind_stk, O.bind_next, O.bind_ret, O.bind_exc, O.bind_stk, O.of_ok, O.of_exc, O.of_stk, O.fin_next, O.fin_ret, O.fin_exc, ofOR_some, ofPR_some, toBR_b, andR_b, orR_b, chR_b, iR_i, noX_ok, szR_lit, Option.isSome_some, Option.isSome_none, mutR_app, mutR_some, ownR_lst, ownR_dk, ownR_dt, itR_tup, itR_list, itR_lst, unT_l2, unT_l3, unT_l4, unT_l5, unT_l6, unT_l7, unL_l2, unL_l3, unL_l4, unL_l5, unL_l6, unL_l7, nd0, nd1, nd2, nd3, nd4, nd5, nd6, par2R_ok, gAdd_int, gII_ok, gI_int, gOrd_int, gEq_int, fz_sh, fz_lst, gNot_b, g1, g1_one, gi_int_none, gi_int_bool, gi_int_int, gi_int_str, gi_int_list, gi_int_tuple, gi_bool_none, gi_bool_bool, gi_bool_int, gi_bool_str, gi_bool_list, gi_bool_tuple, gi_str_none, gi_str_bool, gi_str_int, gi_str_str, gi_str_list, gi_str_tuple, gi_list_none, gi_list_bool, gi_list_int, gi_list_str, gi_list_list, gi_list_tuple, gi_tuple_none, gi_tuple_bool, gi_tuple_int, gi_tuple_str, gi_tuple_list, gi_tuple_tuple, gMax_two, mApp_ok, ownT_lst, dLen_list, dLen_tup, gSub_list, gSub_tup, gSub_lst, atI_l0, atI_l1, atI_l2, atI_l3, atI_l4, atI_l5, atI_l6, Option.map_some, dInt_b, dInt_i, dAbs_i, List.map_cons, List.map_nil, List.cons_append, List.nil_append, if_true, if_false, Bool.false_eq_true, decide_true, decide_false, Bool.false_xor, Bool.true_xor, decide_eq_true_eq, List.length_cons, List.length_nil, nl0, nl1, nl2, nl3, nl4, nl5, nl6, nl7, nl8, nl9, nl10, nl11, nl12, nl13, nl14, nl15, nl16, nl17, nl18, nl19, nl20, Nat.reduceAdd, Nat.reduceSub, Nat.reduceMul, Int.reduceLT, Int.reduceEq, Int.reduceSub, Int.reduceAdd, Int.reduceNeg, Int.reduceLE, Int.reduceMul, Int.reduceToNat, sz_le, sz_lt, Nat.reduceLeDiff, Nat.reduceLT, Bool.not_true, Bool.not_false, Bool.true_and, Bool.and_true, Bool.false_and, Bool.and_false, Bool.true_or, Bool.or_true, Bool.false_or, Bool.or_false, rite_and, rite_or, rb_and, rb_or, Bool.decide_eq_true, Bool.decide_and, Bool.decide_or, gAdd_LL, gAdd_Ll, gAdd_lL, gAdd_lst, gAdd_TT, map_sh_fz, map_fz_shL, List.length_map, gEq_bool, eq_self, forO_nil, forO_cons, lcR_nil, rng1R_ok, rng2R_ok, *])
theorem near_self (u : Rule) (p : Cell) : near u p p = true := by
  unfold near ab
  rw [Int.sub_self, Int.sub_self]
  cases u <;> decide +kernel
theorem keep_apart {u : Rule} {s t : Ship} (h : keepB u s t = true) : ∀ p ∈ s.cells, p ∉ t.cells := fun p hp hq => by
  unfold keepB at h
  rw [List.all_eq_true] at h
  have := h p hp
  rw [List.all_eq_true] at this
  have := this p hq
  rw [near_self] at this
  cases this
theorem allH_keep {R C : Nat} {u : Rule} : ∀ (fleet : List Nat) (h : Hid), h ∈ allH R C u fleet → h.Pairwise fun s t => keepB u s t = true := by
  suffices hs : ∀ n (f : List Nat), f.length = n → ∀ h, h ∈ allH R C u f → h.Pairwise fun s t => keepB u s t = true from fun f h hh => hs _ f rfl h hh
  intro n
  induction n with
  | zero => intro f hf h hh; have := List.eq_nil_of_length_eq_zero hf; subst this; simp [allH] at hh; subst hh; exact .nil
  | succ n ih =>
    intro f hf h hh
    have hne : f ≠ [] := fun e => by rw [e] at hf; cases hf
    obtain ⟨g, l, rfl⟩ : ∃ g l, f = g ++ [l] := ⟨f.dropLast, f.getLast hne, (List.dropLast_concat_getLast hne).symm⟩
    rw [List.length_append, List.length_singleton] at hf
    rw [allH_snoc] at hh
    unfold extH at hh
    simp only [List.mem_flatMap, List.mem_map, List.mem_filter] at hh
    obtain ⟨h0, hh0, s, ⟨hs, ok⟩, rfl⟩ := hh
    rw [List.pairwise_append]
    refine ⟨ih g (by omega) h0 hh0, List.pairwise_singleton _ _, fun t ht z hz => ?_⟩
    rw [List.mem_singleton.mp hz]
    unfold okNext at ok
    rw [Bool.and_eq_true, List.all_eq_true] at ok
    exact ok.2 t ht
theorem on_inB {R C : Nat} (hR : R ≤ 8) (hC : C ≤ 8) {p : Cell} (h : onB R C p = true) : InB p := by
  rw [onB_iff] at h
  unfold InB
  omega
theorem ship_inB {R C l : Nat} (hl : 1 ≤ l) (h1000 : l ≤ 1000) (hR : R ≤ 8) (hC : C ≤ 8) {s : Ship} (h : s ∈ ships R C l) : s.inB ∧ ∀ p ∈ s.cells, onB R C p = true := by
  rw [mem_ships hl] at h
  obtain ⟨h1, h2⟩ := h
  unfold Ship.ok Ship.on at h2
  rw [Bool.and_eq_true, List.all_eq_true] at h2
  exact ⟨⟨by omega, fun p hp => on_inB hR hC (h2.2 p hp)⟩, h2.2⟩
structure GoodH (R C : Nat) (h : Hid) : Prop where
  inB : ∀ s ∈ h, s.inB
  on : ∀ s ∈ h, ∀ p ∈ s.cells, onB R C p = true
  apart : Apart h
  len : h.length ≤ 3
theorem Game.good {R C : Nat} {u : Rule} {fleet : List Nat} (g : Game R C fleet) {h : Hid} (hh : h ∈ allH R C u fleet) : GoodH R C h := by
  have hm := allH_mem fleet h hh
  have sb : ∀ s ∈ h, s.inB ∧ ∀ p ∈ s.cells, onB R C p = true := fun s hs => by
    obtain ⟨l, hl, hsl⟩ := hm s hs
    have := g.fl l hl
    exact ship_inB this.1 (by omega) (by have := g.r8; omega) (by have := g.c8; omega) hsl
  refine ⟨fun s hs => (sb s hs).1, fun s hs => (sb s hs).2, (allH_keep fleet h hh).imp fun {s t} k => keep_apart k, ?_⟩
  have := congrArg List.length (allH_ns fleet h hh)
  rw [List.length_map] at this
  have := g.f3
  omega
theorem GoodH.answers {R C : Nat} {h : Hid} (g : GoodH R C h) {cs : List Cell} (hc : ∀ q ∈ cs, InB q) (hl : cs.length ≤ 1000) : q_answers_of [hD h, .list (cs.map cD)] = .ok (shL Ans.d (ansL h [] cs)) := answers_q g.inB (by have := g.len; omega) hc hl
theorem GoodH.law {R C : Nat} {h : Hid} (g : GoodH R C h) {cs : List Cell} (nd : cs.Nodup) (hl : cs.length ≤ 1000) : q__law_answers [hD h, .list (cs.map cD)] = .ok (shL Ans.d (ansL h [] cs)) := law_answers_q (fun s hs => (g.inB s hs).1) g.apart (by have := g.len; omega) nd hl
theorem GoodH.fits {R C : Nat} {h : Hid} (g : GoodH R C h) {r : Rec} (hC : ∀ q ∈ r, InB q.1) (hc : r.length ≤ 1000) : q_fits [hD h, .list (r.map rD)] = .ok (.sh (.bool (fitB h r))) := fits_q g.inB (by have := g.len; omega) hC hc
/-! records -/
theorem pairD_zip : ∀ (cs : List Cell) (as : List Ans), Ev.pairD (cs.map cD) (as.map Ans.d) = (cs.zip as).map rD
  | [], _ => by simp [Ev.pairD]
  | _ :: _, [] => by simp [Ev.pairD]
  | c :: cs, a :: as => by
    show .tuple [cD c, a.d] :: pairD (cs.map cD) (as.map Ans.d) = _
    rw [pairD_zip cs as]; rfl
theorem zip_fst : ∀ {cs : List Cell} {as : List Ans}, cs.length = as.length → (cs.zip as).map (·.1) = cs
  | [], [], _ => rfl
  | c :: cs, a :: as, h => by rw [List.zip_cons_cons, List.map_cons, zip_fst (by simpa using h)]
theorem zip_snd : ∀ {cs : List Cell} {as : List Ans}, cs.length = as.length → (cs.zip as).map (·.2) = as
  | [], [], _ => rfl
  | c :: cs, a :: as, h => by rw [List.zip_cons_cons, List.map_cons, zip_snd (by simpa using h)]
theorem fit_due {h : Hid} {cs : List Cell} : fitB h (cs.zip (ansL h [] cs)) = true := by
  have e := (ansL_len h cs []).symm
  unfold fitB
  rw [zip_fst e, zip_snd e]
  simp
/-- a record with another answer at a place -/
theorem fit_other {h : Hid} {cs : List Cell} {k : Nat} {c : Cell} {a w : Ans} (hk : cs[k]? = some c) (ha : (ansL h [] cs)[k]? = some a) :
    fitB h ((cs.zip (ansL h [] cs)).take k ++ [(c, w)] ++ (cs.zip (ansL h [] cs)).drop (k + 1)) = decide (w = a) := by
  have e := (ansL_len h cs []).symm
  have hl := (List.getElem?_eq_some_iff.mp hk).1
  have hz : (cs.zip (ansL h [] cs)).take k ++ [(c, w)] ++ (cs.zip (ansL h [] cs)).drop (k + 1) = (cs.zip (ansL h [] cs)).set k (c, w) := by
    rw [List.set_eq_take_append_cons_drop, if_pos (by rw [List.length_zip]; omega), List.append_assoc]; rfl
  rw [hz]
  unfold fitB
  rw [List.map_set, List.map_set, zip_fst e, zip_snd e, set_at hk, Bool.eq_iff_iff, decide_eq_true_eq, decide_eq_true_eq]
  constructor
  · intro q
    have := congrArg (·[k]?) q
    simp only at this
    rw [ha, List.getElem?_set_self (by omega)] at this
    cases this; rfl
  · rintro rfl
    exact (set_at ha).symm
end Com
namespace K07
open PySem PySem.Spec L2 Ev Com
open PyProof.Rows hiding St
def topS (i : Nat) : Stmt := PySem.Challenge.pw_fleethide_k07_answers_by_walk.main.body.getD i (.Pass ⟨0, 0, 0, 0⟩)
abbrev s_cells_of : Stmt := topS 1
abbrev N_cells_of : List Str := ["ship", "row", "column", "way", "length", "k"]
theorem sc_cells_of : FnScope N_cells_of ["ship"] (defScope s_cells_of) := ⟨rfl, rfl, rfl, by decide +kernel, rfl, by decide +kernel, by decide +kernel⟩
abbrev s_bit_of : Stmt := topS 3
abbrev N_bit_of : List Str := ["cell"]
theorem sc_bit_of : FnScope N_bit_of ["cell"] (defScope s_bit_of) := ⟨rfl, rfl, rfl, by decide +kernel, rfl, by decide +kernel, by decide +kernel⟩
abbrev s_bits_of : Stmt := topS 4
abbrev N_bits_of : List Str := ["ship", "cell"]
theorem sc_bits_of : FnScope N_bits_of ["ship"] (defScope s_bits_of) := ⟨rfl, rfl, rfl, by decide +kernel, rfl, by decide +kernel, by decide +kernel⟩
abbrev s_answer_of : Stmt := topS 6
abbrev N_answer_of : List Str := ["ships", "shot", "cell", "bit", "ship"]
theorem sc_answer_of : FnScope N_answer_of ["ships", "shot", "cell"] (defScope s_answer_of) := ⟨rfl, rfl, rfl, by decide +kernel, rfl, by decide +kernel, by decide +kernel⟩
abbrev s_answers_of : Stmt := topS 7
abbrev N_answers_of : List Str := ["hiding", "cells", "ships", "shot", "found", "cell", "ship"]
theorem sc_answers_of : FnScope N_answers_of ["hiding", "cells"] (defScope s_answers_of) := ⟨rfl, rfl, rfl, by decide +kernel, rfl, by decide +kernel, by decide +kernel⟩
abbrev s_fits : Stmt := topS 8
abbrev N_fits : List Str := ["hiding", "record", "row"]
theorem sc_fits : FnScope N_fits ["hiding", "record"] (defScope s_fits) := ⟨rfl, rfl, rfl, by decide +kernel, rfl, by decide +kernel, by decide +kernel⟩
abbrev s__law_stir : Stmt := topS 10
abbrev N__law_stir : List Str := ["cell", "k", "number"]
theorem sc__law_stir : FnScope N__law_stir ["cell", "k"] (defScope s__law_stir) := ⟨rfl, rfl, rfl, by decide +kernel, rfl, by decide +kernel, by decide +kernel⟩
abbrev s__law_drawn : Stmt := topS 11
abbrev N__law_drawn : List Str := ["cell", "sizes", "found", "rest", "k"]
theorem sc__law_drawn : FnScope N__law_drawn ["cell", "sizes"] (defScope s__law_drawn) := ⟨rfl, rfl, rfl, by decide +kernel, rfl, by decide +kernel, by decide +kernel⟩
abbrev s__law_cells : Stmt := topS 12
abbrev N__law_cells : List Str := ["ship", "row", "column", "way", "length", "found", "k"]
theorem sc__law_cells : FnScope N__law_cells ["ship"] (defScope s__law_cells) := ⟨rfl, rfl, rfl, by decide +kernel, rfl, by decide +kernel, by decide +kernel⟩
abbrev s__law_ships : Stmt := topS 13
abbrev N__law_ships : List Str := ["sheet", "length", "found", "row", "column"]
theorem sc__law_ships : FnScope N__law_ships ["sheet", "length"] (defScope s__law_ships) := ⟨rfl, rfl, rfl, by decide +kernel, rfl, by decide +kernel, by decide +kernel⟩
abbrev s__law_halo : Stmt := topS 14
abbrev N__law_halo : List Str := ["rule", "ship", "found", "steps", "row", "column", "down", "right"]
theorem sc__law_halo : FnScope N__law_halo ["rule", "ship"] (defScope s__law_halo) := ⟨rfl, rfl, rfl, by decide +kernel, rfl, by decide +kernel, by decide +kernel⟩
abbrev s__law_free : Stmt := topS 16
abbrev N__law_free : List Str := ["halo", "ground", "one", "cell"]
theorem sc__law_free : FnScope N__law_free ["halo", "ground"] (defScope s__law_free) := ⟨rfl, rfl, rfl, by decide +kernel, rfl, by decide +kernel, by decide +kernel⟩
abbrev s__law_all : Stmt := topS 15
abbrev N__law_all : List Str := ["sheet", "fleet", "rule", "rows", "place", "length", "ships", "halos", "grounds", "longer", "hiding", "halo", "k", "later", "ship"]
theorem sc__law_all : FnScope N__law_all ["sheet", "fleet", "rule"] (defScope s__law_all) := ⟨rfl, rfl, rfl, by decide +kernel, rfl, by decide +kernel, by decide +kernel⟩
abbrev s__law_game : Stmt := topS 17
abbrev N__law_game : List Str := ["cell", "way", "rows", "columns", "first", "second", "third", "rule", "sheet", "fleet"]
theorem sc__law_game : FnScope N__law_game ["cell"] (defScope s__law_game) := ⟨rfl, rfl, rfl, by decide +kernel, rfl, by decide +kernel, by decide +kernel⟩
abbrev s__law_played : Stmt := topS 18
abbrev N__law_played : List Str := ["cell", "sheet", "fleet", "rule", "rows"]
theorem sc__law_played : FnScope N__law_played ["cell"] (defScope s__law_played) := ⟨rfl, rfl, rfl, by decide +kernel, rfl, by decide +kernel, by decide +kernel⟩
abbrev s__law_answers : Stmt := topS 19
abbrev N__law_answers : List Str := ["hiding", "cells", "left", "grounds", "found", "cell", "answer", "k", "ship"]
theorem sc__law_answers : FnScope N__law_answers ["hiding", "cells"] (defScope s__law_answers) := ⟨rfl, rfl, rfl, by decide +kernel, rfl, by decide +kernel, by decide +kernel⟩
abbrev s__law_sheet_cells : Stmt := topS 20
abbrev N__law_sheet_cells : List Str := ["sheet", "found", "row", "column"]
theorem sc__law_sheet_cells : FnScope N__law_sheet_cells ["sheet"] (defScope s__law_sheet_cells) := ⟨rfl, rfl, rfl, by decide +kernel, rfl, by decide +kernel, by decide +kernel⟩
abbrev s__law_order : Stmt := topS 21
abbrev N__law_order : List Str := ["cell", "things", "found", "k", "thing"]
theorem sc__law_order : FnScope N__law_order ["cell", "things"] (defScope s__law_order) := ⟨rfl, rfl, rfl, by decide +kernel, rfl, by decide +kernel, by decide +kernel⟩
abbrev s_law : Stmt := topS 22
abbrev N_law : List Str := ["script", "cell", "sheet", "fleet", "rule", "rows", "k", "hiding", "every", "cells", "due", "handed", "record", "at", "word", "other"]
theorem sc_law : FnScope N_law ["script"] (defScope s_law) := ⟨rfl, rfl, rfl, by decide +kernel, rfl, by decide +kernel, by decide +kernel⟩
def b_law_1 : Rho → Out :=
  (sCons (sSet 15 (eBin gAdd (eBin gAdd (eSl (eV 12) none (some (eV 13))) (eLst (lCons (eTup (lCons (eBin gSub (eV 9) (eV 13)) (lCons (eV 14) lNil))) lNil))) (eSl (eV 12) (some (eBin gAdd (eV 13) (cC (.int 1)))) none)))
    (sCons (sIf (eTest (eBin (gEq true) (eCall m_fits (lCons (eV 7) (lCons (eV 15) lNil))) (eBin (gEq false) (eV 14) (eBin gSub (eV 10) (eV 13))))) (sCons (sRet (cC (.bool false)))
    sNil) sNil)
    sNil))
def b_law_2 : Rho → Out :=
  (sCons (sFor [14, 15] (iVal (eTup (lCons (cC (.str "water")) (lCons (cC (.str "hit")) (lCons (cC (.str "sunk")) lNil))))) (hName 14) b_law_1)
    sNil)
def b_law_3 : Rho → Out :=
  (sCons (sSet 7 (eBin gSub (eV 5) (eMod (eCall m__law_stir (lCons (eV 1) (lCons (eBin gAdd (cC (.int 500)) (eV 6)) lNil))) (eFn (g1 dLen) (lCons (eV 5) lNil)))))
    (sCons (sSet 8 (eCall m__law_order (lCons (eBin gAdd (eV 1) (eMul (cC (.int 7)) (eV 6))) (lCons (eCall m__law_sheet_cells (lCons (eV 2) lNil)) lNil))))
    (sCons (sSet 9 (eSl (eV 8) none (some (eBin gSub (eLst (lCons (eFn (g1 dLen) (lCons (eV 8) lNil)) (lCons (cC (.int 0)) (lCons (eMod (eCall m__law_stir (lCons (eV 1) (lCons (eBin gAdd (cC (.int 510)) (eV 6)) lNil))) (eBin gAdd (eFn (g1 dLen) (lCons (eV 8) lNil)) (cC (.int 1)))) (lCons (eFn (g1 dLen) (lCons (eV 8) lNil)) lNil))))) (eV 6)))))
    (sCons (sSet 10 (eCall m__law_answers (lCons (eV 7) (lCons (eV 9) lNil))))
    (sCons (sSet 11 (eFn (g1 dList) (lCons (eV 9) lNil)))
    (sCons (sIf (bOr (eTest (eBin (gEq true) (eCall m_answers_of (lCons (eV 7) (lCons (eV 11) lNil))) (eV 10))) (eTest (eBin (gEq true) (eV 11) (eV 9)))) (sCons (sRet (cC (.bool false)))
    sNil) sNil)
    (sCons (sSet 12 (eFn gLZ (lCons (eV 9) (lCons (eV 10) lNil))))
    (sCons (sIf (eTest (eBin (gIsB true) (eCall m_fits (lCons (eV 7) (lCons (eFn (g1 dList) (lCons (eV 12) lNil)) lNil))) (cC (.bool true)))) (sCons (sRet (cC (.bool false)))
    sNil) sNil)
    (sCons (sFor [13, 14, 15] (iRange3 (lCons (cC (.int 0)) (lCons (eFn (g1 dLen) (lCons (eV 9) lNil)) (lCons (eBin gAdd (cC (.int 1)) (eFdiv (eFn (g1 dLen) (lCons (eV 9) lNil)) (cC (.int 6)))) lNil)))) (hName 13) b_law_2)
    sNil)))))))))
def b_law_4 : Rho → Out :=
  (sCons (sAsg (hTup 4 (hCons (hName 2) (hCons (hName 3) (hCons (hName 4) (hCons (hName 5) hNil))))) (eCall m__law_played (lCons (eV 1) lNil)))
    (sCons (sFor [6, 7, 8, 9, 10, 11, 12, 13, 14, 15] (iRange1 (cC (.int 4))) (hName 6) b_law_3)
    sNil))
def b_law : Rho → Out :=
  (sCons (sFor [1, 2, 3, 4, 5, 6, 7, 8, 9, 10, 11, 12, 13, 14, 15] (iVal (eBin gAdd (eLst (lCons (cC (.int 0)) lNil)) (eSl (eV 0) none (some (cC (.int 12)))))) (hName 1) b_law_4)
    (sCons (sRet (cC (.bool true)))
    sNil))
def m_law : List PyData → Rv := runP 16 b_law
/-- what the top has written -/
structure Top (K : PySem.W.Frag) (mg : Str → Option Value) : Prop where
  d_cells_of : ∃ (f : Addr) (fd : FuncData), FunD K "cells_of" "cells_of" (defArgs s_cells_of) (defBody s_cells_of) (defScope s_cells_of) [] [] f fd ∧ mg "cells_of" = some (.ref f) ∧ Binds K fd ["ship"] []
  d_bit_of : ∃ (f : Addr) (fd : FuncData), FunD K "bit_of" "bit_of" (defArgs s_bit_of) (defBody s_bit_of) (defScope s_bit_of) [] [] f fd ∧ mg "bit_of" = some (.ref f) ∧ Binds K fd ["cell"] []
  d_bits_of : ∃ (f : Addr) (fd : FuncData), FunD K "bits_of" "bits_of" (defArgs s_bits_of) (defBody s_bits_of) (defScope s_bits_of) [] [] f fd ∧ mg "bits_of" = some (.ref f) ∧ Binds K fd ["ship"] []
  d_answer_of : ∃ (f : Addr) (fd : FuncData), FunD K "answer_of" "answer_of" (defArgs s_answer_of) (defBody s_answer_of) (defScope s_answer_of) [] [] f fd ∧ mg "answer_of" = some (.ref f) ∧ Binds K fd ["ships", "shot", "cell"] []
  d_answers_of : ∃ (f : Addr) (fd : FuncData), FunD K "answers_of" "answers_of" (defArgs s_answers_of) (defBody s_answers_of) (defScope s_answers_of) [] [] f fd ∧ mg "answers_of" = some (.ref f) ∧ Binds K fd ["hiding", "cells"] []
  d_fits : ∃ (f : Addr) (fd : FuncData), FunD K "fits" "fits" (defArgs s_fits) (defBody s_fits) (defScope s_fits) [] [] f fd ∧ mg "fits" = some (.ref f) ∧ Binds K fd ["hiding", "record"] []
  d__law_stir : ∃ (f : Addr) (fd : FuncData), FunD K "_law_stir" "_law_stir" (defArgs s__law_stir) (defBody s__law_stir) (defScope s__law_stir) [] [] f fd ∧ mg "_law_stir" = some (.ref f) ∧ Binds K fd ["cell", "k"] []
  d__law_drawn : ∃ (f : Addr) (fd : FuncData), FunD K "_law_drawn" "_law_drawn" (defArgs s__law_drawn) (defBody s__law_drawn) (defScope s__law_drawn) [] [] f fd ∧ mg "_law_drawn" = some (.ref f) ∧ Binds K fd ["cell", "sizes"] []
  d__law_cells : ∃ (f : Addr) (fd : FuncData), FunD K "_law_cells" "_law_cells" (defArgs s__law_cells) (defBody s__law_cells) (defScope s__law_cells) [] [] f fd ∧ mg "_law_cells" = some (.ref f) ∧ Binds K fd ["ship"] []
  d__law_ships : ∃ (f : Addr) (fd : FuncData), FunD K "_law_ships" "_law_ships" (defArgs s__law_ships) (defBody s__law_ships) (defScope s__law_ships) [] [] f fd ∧ mg "_law_ships" = some (.ref f) ∧ Binds K fd ["sheet", "length"] []
  d__law_halo : ∃ (f : Addr) (fd : FuncData), FunD K "_law_halo" "_law_halo" (defArgs s__law_halo) (defBody s__law_halo) (defScope s__law_halo) [] [] f fd ∧ mg "_law_halo" = some (.ref f) ∧ Binds K fd ["rule", "ship"] []
  d__law_free : ∃ (f : Addr) (fd : FuncData), FunD K "_law_free" "_law_free" (defArgs s__law_free) (defBody s__law_free) (defScope s__law_free) [] [] f fd ∧ mg "_law_free" = some (.ref f) ∧ Binds K fd ["halo", "ground"] []
  d__law_all : ∃ (f : Addr) (fd : FuncData), FunD K "_law_all" "_law_all" (defArgs s__law_all) (defBody s__law_all) (defScope s__law_all) [] [] f fd ∧ mg "_law_all" = some (.ref f) ∧ Binds K fd ["sheet", "fleet", "rule"] []
  d__law_game : ∃ (f : Addr) (fd : FuncData), FunD K "_law_game" "_law_game" (defArgs s__law_game) (defBody s__law_game) (defScope s__law_game) [] [] f fd ∧ mg "_law_game" = some (.ref f) ∧ Binds K fd ["cell"] []
  d__law_played : ∃ (f : Addr) (fd : FuncData), FunD K "_law_played" "_law_played" (defArgs s__law_played) (defBody s__law_played) (defScope s__law_played) [] [] f fd ∧ mg "_law_played" = some (.ref f) ∧ Binds K fd ["cell"] []
  d__law_answers : ∃ (f : Addr) (fd : FuncData), FunD K "_law_answers" "_law_answers" (defArgs s__law_answers) (defBody s__law_answers) (defScope s__law_answers) [] [] f fd ∧ mg "_law_answers" = some (.ref f) ∧ Binds K fd ["hiding", "cells"] []
  d__law_sheet_cells : ∃ (f : Addr) (fd : FuncData), FunD K "_law_sheet_cells" "_law_sheet_cells" (defArgs s__law_sheet_cells) (defBody s__law_sheet_cells) (defScope s__law_sheet_cells) [] [] f fd ∧ mg "_law_sheet_cells" = some (.ref f) ∧ Binds K fd ["sheet"] []
  d__law_order : ∃ (f : Addr) (fd : FuncData), FunD K "_law_order" "_law_order" (defArgs s__law_order) (defBody s__law_order) (defScope s__law_order) [] [] f fd ∧ mg "_law_order" = some (.ref f) ∧ Binds K fd ["cell", "things"] []
  d_law : ∃ (f : Addr) (fd : FuncData), FunD K "law" "law" (defArgs s_law) (defBody s_law) (defScope s_law) [] [] f fd ∧ mg "law" = some (.ref f) ∧ Binds K fd ["script"] []
  n_enumerate : mg "enumerate" = none
  n_int : mg "int" = none
  n_len : mg "len" = none
  n_list : mg "list" = none
  n_min : mg "min" = none
  n_range : mg "range" = none
  n_sorted : mg "sorted" = none
  n_sum : mg "sum" = none
  n_tuple : mg "tuple" = none
  n_zip : mg "zip" = none
section
variable {P : Program} {w : World} {K : PySem.W.Frag} {mg : Str → Option Value} {base : Heap}
theorem ok_cells_of (D : Top K mg) : FnT P w K mg base "cells_of" 1 1 m_cells_of := by
  obtain ⟨f, fd, F, hm, hb⟩ := D.d_cells_of
  exact fnD_of F sc_cells_of hm hb rfl fun cdv A outer s H E G =>
    (eb_cons (es_asg (is := [1, 2, 3, 4]) (ev_var (pv 0)) (eg_tup G (egs_cons (eg_name (i := 1) G.nd rfl (by first | exact .inl rfl | exact .inr rfl)) (egs_cons (eg_name (i := 2) G.nd rfl (by first | exact .inl rfl | exact .inr rfl)) (egs_cons (eg_name (i := 3) G.nd rfl (by first | exact .inl rfl | exact .inr rfl)) (egs_cons (eg_name (i := 4) G.nd rfl (by first | exact .inl rfl | exact .inr rfl)) egs_nil))))))
    (eb_cons (es_if (et_cmp (ec_eq G (ev_var (pv 3)) ev_str)) (eb_cons (es_ret (ev_lc G (ei_range1 (by rfl) D.n_range (ev_var (pv 4))) (blkOk_by (N := N_cells_of) (sc := defScope s_cells_of) (own := [("k", 5)]) (by decide +kernel)) (fun s1 H1 C1 cl1 fp1 => (eg_name (i := 5) (G.blk s1 H1 _ _ fp1).nd rfl (by first | exact .inl rfl | exact .inr rfl))) (fun s1 H1 C1 cl1 fp1 => ets_nil) (fun s1 H1 C1 cl1 fp1 => (ev_tup (el_cons (ev_var (pv 1)) (el_cons (ev_add (ev_var (pv 2)) (ev_var (pv 5))) el_nil))))))
    eb_nil) eb_nil)
    (eb_cons (es_ret (ev_lc G (ei_range1 (by rfl) D.n_range (ev_var (pv 4))) (blkOk_by (N := N_cells_of) (sc := defScope s_cells_of) (own := [("k", 5)]) (by decide +kernel)) (fun s1 H1 C1 cl1 fp1 => (eg_name (i := 5) (G.blk s1 H1 _ _ fp1).nd rfl (by first | exact .inl rfl | exact .inr rfl))) (fun s1 H1 C1 cl1 fp1 => ets_nil) (fun s1 H1 C1 cl1 fp1 => (ev_tup (el_cons (ev_add (ev_var (pv 1)) (ev_var (pv 5))) (el_cons (ev_var (pv 2)) el_nil))))))
    eb_nil)))
theorem ok_bit_of (D : Top K mg) : FnT P w K mg base "bit_of" 1 1 m_bit_of := by
  obtain ⟨f, fd, F, hm, hb⟩ := D.d_bit_of
  exact fnD_of F sc_bit_of hm hb rfl fun cdv A outer s H E G =>
    (eb_cons (es_ret (ev_shl ev_int (ev_add (ev_mul ev_int (ev_sub_ix G (ev_var (pv 0)) ev_int)) (ev_sub_ix G (ev_var (pv 0)) ev_int))))
    eb_nil)
theorem ok_bits_of (D : Top K mg) : FnT P w K mg base "bits_of" 2 1 m_bits_of := by
  obtain ⟨f, fd, F, hm, hb⟩ := D.d_bits_of
  exact fnD_of F sc_bits_of hm hb rfl fun cdv A outer s H E G =>
    (eb_cons (es_ret (ev_b (b_sum G.calm D.n_sum) (by rfl) (el_cons (ev_lc G (ei_val (ev_call G (ok_cells_of D) (by decide) (by rfl) (el_cons (ev_var (pv 0)) el_nil) (hfl := (ll_cons ll_nil)))) (blkOk_by (N := N_bits_of) (sc := defScope s_bits_of) (own := [("cell", 1)]) (by decide +kernel)) (fun s1 H1 C1 cl1 fp1 => (eg_name (i := 1) (G.blk s1 H1 _ _ fp1).nd rfl (by first | exact .inl rfl | exact .inr rfl))) (fun s1 H1 C1 cl1 fp1 => ets_nil) (fun s1 H1 C1 cl1 fp1 => (ev_call (G.blk s1 H1 _ _ fp1) (ok_bit_of D) (by decide) (by rfl) (el_cons (ev_var (pv 1)) el_nil) (hfl := (ll_cons ll_nil))))) el_nil)))
    eb_nil)
theorem ok_answer_of (D : Top K mg) : FnT P w K mg base "answer_of" 2 3 m_answer_of := by
  obtain ⟨f, fd, F, hm, hb⟩ := D.d_answer_of
  exact fnD_of F sc_answer_of hm hb rfl fun cdv A outer s H E G =>
    (eb_cons (es_set (i := 3) G.nd rfl (by first | exact .inl rfl | exact .inr rfl) (ev_call G (ok_bit_of D) (by decide) (by rfl) (el_cons (ev_var (pv 2)) el_nil) (hfl := (ll_cons ll_nil))))
    (eb_cons (es_for (is := [4]) [4] G (ei_val (ev_var (pv 0))) (eg_name (i := 4) G.nd rfl (by first | exact .inl rfl | exact .inr rfl)) (eb_cons (es_if (et_cmp (ec_ne G (ev_band (ev_var (pv 4)) (ev_var (pv 3))) ev_int)) (eb_cons (es_ret (ev_if (et_cmp (ec_eq G (ev_band (ev_var (pv 4)) (ev_inv (ev_bor (ev_var (pv 1)) (ev_var (pv 3))))) ev_int)) ev_str ev_str))
    eb_nil) eb_nil)
    eb_nil))
    (eb_cons (es_ret ev_str)
    eb_nil)))
theorem ok_answers_of (D : Top K mg) : FnT P w K mg base "answers_of" 3 2 m_answers_of := by
  obtain ⟨f, fd, F, hm, hb⟩ := D.d_answers_of
  exact fnD_of F sc_answers_of hm hb rfl fun cdv A outer s H E G =>
    (eb_cons (es_setLc (i := 2) G rfl rfl (sw_true rfl rfl rfl (by decide +kernel)) (ei_val (ev_var (pv 0))) (blkOk_by (N := N_answers_of) (sc := defScope s_answers_of) (own := [("ship", 6)]) (by decide +kernel)) (fun s1 H1 C1 cl1 fp1 => (eg_name (i := 6) (G.blk s1 H1 _ _ fp1).nd rfl (by first | exact .inl rfl | exact .inr rfl))) (fun s1 H1 C1 cl1 fp1 => ets_nil) (fun s1 H1 C1 cl1 fp1 => (ev_call (G.blk s1 H1 _ _ fp1) (ok_bits_of D) (by decide) (by rfl) (el_cons (ev_var (pv 6)) el_nil) (hfl := (ll_cons ll_nil)))))
    (eb_cons (es_set (i := 3) G.nd rfl (by first | exact .inl rfl | exact .inr rfl) ev_int)
    (eb_cons (es_set (i := 4) G.nd rfl (by first | exact .inl rfl | exact .inr rfl) (ev_lst el_nil))
    (eb_cons (es_for (is := [5]) [5] G (ei_val (ev_var (pv 1))) (eg_name (i := 5) G.nd rfl (by first | exact .inl rfl | exact .inr rfl)) (eb_cons (es_expr (ev_mt opm_app (by decide) (pe_bm PySem.F.plainAttrs_list PySem.F.slot_list_append PySem.F.type_list_append mt_append (pv 4) (el_cons (ev_call G (ok_answer_of D) (by decide) (by rfl) (el_cons (ev_var (pv 2)) (el_cons (ev_var (pv 3)) (el_cons (ev_var (pv 5)) el_nil))) (hfl := (ll_cons (ll_cons (ll_cons ll_nil))))) el_nil))))
    (eb_cons (es_set (i := 3) G.nd rfl (by first | exact .inl rfl | exact .inr rfl) (ev_bor (ev_var (pv 3)) (ev_call G (ok_bit_of D) (by decide) (by rfl) (el_cons (ev_var (pv 5)) el_nil) (hfl := (ll_cons ll_nil)))))
    eb_nil)))
    (eb_cons (es_ret (ev_mv (pv 4)))
    eb_nil)))))
theorem ok_fits (D : Top K mg) : FnT P w K mg base "fits" 4 2 m_fits := by
  obtain ⟨f, fd, F, hm, hb⟩ := D.d_fits
  exact fnD_of F sc_fits hm hb rfl fun cdv A outer s H E G =>
    (eb_cons (es_ret (ee_cmp (ec_eq G (ev_call G (ok_answers_of D) (by decide) (by rfl) (el_cons (ev_var (pv 0)) (el_cons (ev_lc G (ei_val (ev_var (pv 1))) (blkOk_by (N := N_fits) (sc := defScope s_fits) (own := [("row", 2)]) (by decide +kernel)) (fun s1 H1 C1 cl1 fp1 => (eg_name (i := 2) (G.blk s1 H1 _ _ fp1).nd rfl (by first | exact .inl rfl | exact .inr rfl))) (fun s1 H1 C1 cl1 fp1 => ets_nil) (fun s1 H1 C1 cl1 fp1 => (ev_sub_ix (G.blk s1 H1 _ _ fp1) (ev_var (pv 2)) ev_int))) el_nil)) (hfl := (ll_cons (ll_cons ll_nil)))) (ev_lc G (ei_val (ev_var (pv 1))) (blkOk_by (N := N_fits) (sc := defScope s_fits) (own := [("row", 2)]) (by decide +kernel)) (fun s1 H1 C1 cl1 fp1 => (eg_name (i := 2) (G.blk s1 H1 _ _ fp1).nd rfl (by first | exact .inl rfl | exact .inr rfl))) (fun s1 H1 C1 cl1 fp1 => ets_nil) (fun s1 H1 C1 cl1 fp1 => (ev_sub_ix (G.blk s1 H1 _ _ fp1) (ev_var (pv 2)) ev_int))))))
    eb_nil)
theorem ok__law_stir (D : Top K mg) : FnT P w K mg base "_law_stir" 1 2 m__law_stir := by
  obtain ⟨f, fd, F, hm, hb⟩ := D.d__law_stir
  exact fnD_of F sc__law_stir hm hb rfl fun cdv A outer s H E G =>
    (eb_cons (es_set (i := 2) G.nd rfl (by first | exact .inl rfl | exact .inr rfl) (ev_mul (ev_add (ev_add (ev_mod (ev_var (pv 0)) (ev_pow ev_int ev_int)) (ev_mul ev_int (ev_var (pv 1)))) ev_int) ev_int))
    (eb_cons (es_set (i := 2) G.nd rfl (by first | exact .inl rfl | exact .inr rfl) (ev_mod (ev_var (pv 2)) ev_int))
    (eb_cons (es_ret (ev_fdiv (ev_mod (ev_pow (ev_add (ev_pow (ev_var (pv 2)) ev_int) (ev_mul ev_int (ev_var (pv 1)))) ev_int) ev_int) ev_int))
    eb_nil)))
theorem ok__law_drawn (D : Top K mg) : FnT P w K mg base "_law_drawn" 2 2 m__law_drawn := by
  obtain ⟨f, fd, F, hm, hb⟩ := D.d__law_drawn
  exact fnD_of F sc__law_drawn hm hb rfl fun cdv A outer s H E G =>
    (eb_cons (es_set (i := 2) G.nd rfl (by first | exact .inl rfl | exact .inr rfl) (ev_lst el_nil))
    (eb_cons (es_set (i := 3) G.nd rfl (by first | exact .inl rfl | exact .inr rfl) (ev_var (pv 0)))
    (eb_cons (es_for (is := [4]) [4] G (ei_range1 (by rfl) D.n_range (ev_b (b_len D.n_len) (by rfl) (el_cons (ev_var (pv 1)) el_nil))) (eg_name (i := 4) G.nd rfl (by first | exact .inl rfl | exact .inr rfl)) (eb_cons (es_if (et_w (ew_or (et_cmp (ec_lt G (ev_var (pv 0)) (ev_pow ev_int ev_int))) (ew_or1 (et_cmp (ec_eq G (ev_var (pv 3)) ev_int))))) (eb_cons (es_expr (ev_mt opm_app (by decide) (pe_bm PySem.F.plainAttrs_list PySem.F.slot_list_append PySem.F.type_list_append mt_append (pv 2) (el_cons (ev_mod (ev_call G (ok__law_stir D) (by decide) (by rfl) (el_cons (ev_var (pv 0)) (el_cons (ev_var (pv 4)) el_nil)) (hfl := (ll_cons (ll_cons ll_nil)))) (ev_sub_ix G (ev_var (pv 1)) (ev_var (pv 4)))) el_nil))))
    eb_nil) (eb_cons (es_expr (ev_mt opm_app (by decide) (pe_bm PySem.F.plainAttrs_list PySem.F.slot_list_append PySem.F.type_list_append mt_append (pv 2) (el_cons (ev_mod (ev_var (pv 3)) (ev_sub_ix G (ev_var (pv 1)) (ev_var (pv 4)))) el_nil))))
    (eb_cons (es_set (i := 3) G.nd rfl (by first | exact .inl rfl | exact .inr rfl) (ev_fdiv (ev_var (pv 3)) (ev_sub_ix G (ev_var (pv 1)) (ev_var (pv 4)))))
    eb_nil)))
    eb_nil))
    (eb_cons (es_ret (ev_mv (pv 2)))
    eb_nil))))
theorem ok__law_cells (D : Top K mg) : FnT P w K mg base "_law_cells" 1 1 m__law_cells := by
  obtain ⟨f, fd, F, hm, hb⟩ := D.d__law_cells
  exact fnD_of F sc__law_cells hm hb rfl fun cdv A outer s H E G =>
    (eb_cons (es_asg (is := [1, 2, 3, 4]) (ev_var (pv 0)) (eg_tup G (egs_cons (eg_name (i := 1) G.nd rfl (by first | exact .inl rfl | exact .inr rfl)) (egs_cons (eg_name (i := 2) G.nd rfl (by first | exact .inl rfl | exact .inr rfl)) (egs_cons (eg_name (i := 3) G.nd rfl (by first | exact .inl rfl | exact .inr rfl)) (egs_cons (eg_name (i := 4) G.nd rfl (by first | exact .inl rfl | exact .inr rfl)) egs_nil))))))
    (eb_cons (es_set (i := 5) G.nd rfl (by first | exact .inl rfl | exact .inr rfl) (ev_lst el_nil))
    (eb_cons (es_for (is := [6]) [6] G (ei_range1 (by rfl) D.n_range (ev_var (pv 4))) (eg_name (i := 6) G.nd rfl (by first | exact .inl rfl | exact .inr rfl)) (eb_cons (es_expr (ev_mt opm_app (by decide) (pe_bm PySem.F.plainAttrs_list PySem.F.slot_list_append PySem.F.type_list_append mt_append (pv 5) (el_cons (ev_tup (el_cons (ev_add (ev_var (pv 1)) (ev_mul (ev_var (pv 6)) (ev_ty (b_int D.n_int) (by rfl) (el_cons (ee_cmp (ec_eq G (ev_var (pv 3)) ev_str)) el_nil)))) (el_cons (ev_add (ev_var (pv 2)) (ev_mul (ev_var (pv 6)) (ev_ty (b_int D.n_int) (by rfl) (el_cons (ee_cmp (ec_eq G (ev_var (pv 3)) ev_str)) el_nil)))) el_nil))) el_nil))))
    eb_nil))
    (eb_cons (es_ret (ev_mv (pv 5)))
    eb_nil))))
theorem ok__law_ships (D : Top K mg) : FnT P w K mg base "_law_ships" 1 2 m__law_ships := by
  obtain ⟨f, fd, F, hm, hb⟩ := D.d__law_ships
  exact fnD_of F sc__law_ships hm hb rfl fun cdv A outer s H E G =>
    (eb_cons (es_set (i := 2) G.nd rfl (by first | exact .inl rfl | exact .inr rfl) (ev_lst el_nil))
    (eb_cons (es_for (is := [3]) [3, 4] G (ei_range1 (by rfl) D.n_range (ev_sub_ix G (ev_var (pv 0)) ev_int)) (eg_name (i := 3) G.nd rfl (by first | exact .inl rfl | exact .inr rfl)) (eb_cons (es_for (is := [4]) [4] G (ei_range1 (by rfl) D.n_range (ev_sub_ix G (ev_var (pv 0)) ev_int)) (eg_name (i := 4) G.nd rfl (by first | exact .inl rfl | exact .inr rfl)) (eb_cons (es_if (et_cmp (ec_le G (ev_add (ev_var (pv 4)) (ev_var (pv 1))) (ev_sub_ix G (ev_var (pv 0)) ev_int))) (eb_cons (es_expr (ev_mt opm_app (by decide) (pe_bm PySem.F.plainAttrs_list PySem.F.slot_list_append PySem.F.type_list_append mt_append (pv 2) (el_cons (ev_tup (el_cons (ev_var (pv 3)) (el_cons (ev_var (pv 4)) (el_cons ev_str (el_cons (ev_var (pv 1)) el_nil))))) el_nil))))
    eb_nil) eb_nil)
    (eb_cons (es_if (et_w (ew_and (et_cmp (ec_le G (ev_add (ev_var (pv 3)) (ev_var (pv 1))) (ev_sub_ix G (ev_var (pv 0)) ev_int))) (ew_and1 (et_cmp (ec_gt G (ev_var (pv 1)) ev_int))))) (eb_cons (es_expr (ev_mt opm_app (by decide) (pe_bm PySem.F.plainAttrs_list PySem.F.slot_list_append PySem.F.type_list_append mt_append (pv 2) (el_cons (ev_tup (el_cons (ev_var (pv 3)) (el_cons (ev_var (pv 4)) (el_cons ev_str (el_cons (ev_var (pv 1)) el_nil))))) el_nil))))
    eb_nil) eb_nil)
    eb_nil)))
    eb_nil))
    (eb_cons (es_ret (ev_mv (pv 2)))
    eb_nil)))
theorem ok__law_halo (D : Top K mg) : FnT P w K mg base "_law_halo" 2 2 m__law_halo := by
  obtain ⟨f, fd, F, hm, hb⟩ := D.d__law_halo
  exact fnD_of F sc__law_halo hm hb rfl fun cdv A outer s H E G =>
    (eb_cons (es_set (i := 2) G.nd rfl (by first | exact .inl rfl | exact .inr rfl) ev_dT)
    (eb_cons (es_set (i := 3) G.nd rfl (by first | exact .inl rfl | exact .inr rfl) (ev_lst (el_cons (ev_tup (el_cons ev_int (el_cons ev_int el_nil))) el_nil)))
    (eb_cons (es_if (et_cmp (ec_ne G (ev_var (pv 0)) ev_str)) (eb_cons (es_set (i := 3) G.nd rfl (by first | exact .inl rfl | exact .inr rfl) (ev_add (ev_var (pv 3)) (ev_lst (el_cons (ev_tup (el_cons ev_int (el_cons ev_int el_nil))) (el_cons (ev_tup (el_cons ev_int (el_cons ev_int el_nil))) (el_cons (ev_tup (el_cons ev_int (el_cons (ev_neg ev_int) el_nil))) (el_cons (ev_tup (el_cons (ev_neg ev_int) (el_cons ev_int el_nil))) el_nil)))))))
    eb_nil) eb_nil)
    (eb_cons (es_if (et_cmp (ec_eq G (ev_var (pv 0)) ev_str)) (eb_cons (es_set (i := 3) G.nd rfl (by first | exact .inl rfl | exact .inr rfl) (ev_add (ev_var (pv 3)) (ev_lst (el_cons (ev_tup (el_cons ev_int (el_cons ev_int el_nil))) (el_cons (ev_tup (el_cons ev_int (el_cons (ev_neg ev_int) el_nil))) (el_cons (ev_tup (el_cons (ev_neg ev_int) (el_cons ev_int el_nil))) (el_cons (ev_tup (el_cons (ev_neg ev_int) (el_cons (ev_neg ev_int) el_nil))) el_nil)))))))
    eb_nil) eb_nil)
    (eb_cons (es_for (is := [4, 5]) [4, 5, 6, 7] G (ei_val (ev_call G (ok__law_cells D) (by decide) (by rfl) (el_cons (ev_var (pv 1)) el_nil) (hfl := (ll_cons ll_nil)))) (eg_tup G (egs_cons (eg_name (i := 4) G.nd rfl (by first | exact .inl rfl | exact .inr rfl)) (egs_cons (eg_name (i := 5) G.nd rfl (by first | exact .inl rfl | exact .inr rfl)) egs_nil))) (eb_cons (es_for (is := [6, 7]) [6, 7] G (ei_val (ev_var (pv 3))) (eg_tup G (egs_cons (eg_name (i := 6) G.nd rfl (by first | exact .inl rfl | exact .inr rfl)) (egs_cons (eg_name (i := 7) G.nd rfl (by first | exact .inl rfl | exact .inr rfl)) egs_nil))) (eb_cons (es_setIx (i := 2) G (pv 2) (ev_tup (el_cons (ev_add (ev_var (pv 4)) (ev_var (pv 6))) (el_cons (ev_add (ev_var (pv 5)) (ev_var (pv 7))) el_nil))) ev_bl)
    eb_nil))
    eb_nil))
    (eb_cons (es_ret (ev_mv (pv 2)))
    eb_nil))))))
theorem ok__law_free (D : Top K mg) : FnT P w K mg base "_law_free" 1 2 m__law_free := by
  obtain ⟨f, fd, F, hm, hb⟩ := D.d__law_free
  exact fnD_of F sc__law_free hm hb rfl fun cdv A outer s H E G =>
    (eb_cons (es_for (is := [2]) [2, 3] G (ei_val (ev_var (pv 0))) (eg_name (i := 2) G.nd rfl (by first | exact .inl rfl | exact .inr rfl)) (eb_cons (es_for (is := [3]) [3] G (ei_val (ev_var (pv 1))) (eg_name (i := 3) G.nd rfl (by first | exact .inl rfl | exact .inr rfl)) (eb_cons (es_if (et_cmp (ec_in G (ev_var (pv 3)) (ev_var (pv 2)))) (eb_cons (es_ret ev_bl)
    eb_nil) eb_nil)
    eb_nil))
    eb_nil))
    (eb_cons (es_ret ev_bl)
    eb_nil))
theorem ok__law_all (D : Top K mg) : FnT P w K mg base "_law_all" 3 3 m__law_all := by
  obtain ⟨f, fd, F, hm, hb⟩ := D.d__law_all
  exact fnD_of F sc__law_all hm hb rfl fun cdv A outer s H E G =>
    (eb_cons (es_set (i := 3) G.nd rfl (by first | exact .inl rfl | exact .inr rfl) (ev_lst (el_cons (ev_tup (el_cons (ev_tup el_nil) (el_cons (ev_lst el_nil) el_nil))) el_nil)))
    (eb_cons (es_for (is := [4, 5]) [4, 5, 6, 7, 8, 9, 10, 11, 12, 13, 14] G (ei_enumA (by rfl) D.n_enumerate (ev_var (pv 1))) (eg_tup G (egs_cons (eg_name (i := 4) G.nd rfl (by first | exact .inl rfl | exact .inr rfl)) (egs_cons (eg_name (i := 5) G.nd rfl (by first | exact .inl rfl | exact .inr rfl)) egs_nil))) (eb_cons (es_set (i := 6) G.nd rfl (by first | exact .inl rfl | exact .inr rfl) (ev_call G (ok__law_ships D) (by decide) (by rfl) (el_cons (ev_var (pv 0)) (el_cons (ev_var (pv 5)) el_nil)) (hfl := (ll_cons (ll_cons ll_nil)))))
    (eb_cons (es_setLc (i := 7) G rfl rfl (sw_true rfl rfl rfl (by decide +kernel)) (ei_val (ev_var (pv 6))) (blkOk_by (N := N__law_all) (sc := defScope s__law_all) (own := [("ship", 14)]) (by decide +kernel)) (fun s1 H1 C1 cl1 fp1 => (eg_name (i := 14) (G.blk s1 H1 _ _ fp1).nd rfl (by first | exact .inl rfl | exact .inr rfl))) (fun s1 H1 C1 cl1 fp1 => ets_nil) (fun s1 H1 C1 cl1 fp1 => (ev_call (G.blk s1 H1 _ _ fp1) (ok__law_halo D) (by decide) (by rfl) (el_cons (ev_var (pv 2)) (el_cons (ev_var (pv 14)) el_nil)) (hfl := (ll_cons (ll_cons ll_nil))))))
    (eb_cons (es_setLc (i := 8) G rfl rfl (sw_true rfl rfl rfl (by decide +kernel)) (ei_val (ev_var (pv 6))) (blkOk_by (N := N__law_all) (sc := defScope s__law_all) (own := [("ship", 14)]) (by decide +kernel)) (fun s1 H1 C1 cl1 fp1 => (eg_name (i := 14) (G.blk s1 H1 _ _ fp1).nd rfl (by first | exact .inl rfl | exact .inr rfl))) (fun s1 H1 C1 cl1 fp1 => ets_nil) (fun s1 H1 C1 cl1 fp1 => (ev_call (G.blk s1 H1 _ _ fp1) (ok__law_cells D) (by decide) (by rfl) (el_cons (ev_var (pv 14)) el_nil) (hfl := (ll_cons ll_nil)))))
    (eb_cons (es_set (i := 9) G.nd rfl (by first | exact .inl rfl | exact .inr rfl) (ev_lst el_nil))
    (eb_cons (es_for (is := [10, 11]) [10, 11, 12, 13] G (ei_val (ev_var (pv 3))) (eg_tup G (egs_cons (eg_name (i := 10) G.nd rfl (by first | exact .inl rfl | exact .inr rfl)) (egs_cons (eg_name (i := 11) G.nd rfl (by first | exact .inl rfl | exact .inr rfl)) egs_nil))) (eb_cons (es_for (is := [12]) [12, 13] G (ei_range1 (by rfl) D.n_range (ev_b (b_len D.n_len) (by rfl) (el_cons (ev_var (pv 6)) el_nil))) (eg_name (i := 12) G.nd rfl (by first | exact .inl rfl | exact .inr rfl)) (eb_cons (es_set (i := 13) G.nd rfl (by first | exact .inl rfl | exact .inr rfl) (ev_or (ee_cmp (ec_eq G (ev_var (pv 4)) ev_int)) (ev_or (ee_cmp (ec_ne G (ev_sub_ix G (ev_var (pv 1)) (ev_sub (ev_var (pv 4)) ev_int)) (ev_var (pv 5)))) (ev_one (ee_cmp (ec_lt G (ev_sub_ix G (ev_var (pv 10)) (ev_neg ev_int)) (ev_sub_ix G (ev_var (pv 6)) (ev_var (pv 12)))))))))
    (eb_cons (es_if (et_w (ew_and (et_val (ev_var (pv 13))) (ew_and1 (et_val (ev_call G (ok__law_free D) (by decide) (by rfl) (el_cons (ev_var (pv 11)) (el_cons (ev_sub_ix G (ev_var (pv 8)) (ev_var (pv 12))) el_nil)) (hfl := (ll_cons (ll_cons ll_nil)))))))) (eb_cons (es_expr (ev_mt opm_app (by decide) (pe_bm PySem.F.plainAttrs_list PySem.F.slot_list_append PySem.F.type_list_append mt_append (pv 9) (el_cons (ev_tup (el_cons (ev_add (ev_var (pv 10)) (ev_tup (el_cons (ev_sub_ix G (ev_var (pv 6)) (ev_var (pv 12))) el_nil))) (el_cons (ev_add (ev_var (pv 11)) (ev_lst (el_cons (ev_sub_ix G (ev_var (pv 7)) (ev_var (pv 12))) el_nil))) el_nil))) el_nil))))
    eb_nil) eb_nil)
    eb_nil)))
    eb_nil))
    (eb_cons (es_set (i := 3) G.nd rfl (by first | exact .inl rfl | exact .inr rfl) (ev_mv (pv 9)))
    eb_nil)))))))
    (eb_cons (es_ret (ev_lc G (ei_val (ev_var (pv 3))) (blkOk_by (N := N__law_all) (sc := defScope s__law_all) (own := [("hiding", 10), ("halo", 11)]) (by decide +kernel)) (fun s1 H1 C1 cl1 fp1 => (eg_tup (G.blk s1 H1 _ _ fp1) (egs_cons (eg_name (i := 10) (G.blk s1 H1 _ _ fp1).nd rfl (by first | exact .inl rfl | exact .inr rfl)) (egs_cons (eg_name (i := 11) (G.blk s1 H1 _ _ fp1).nd rfl (by first | exact .inl rfl | exact .inr rfl)) egs_nil)))) (fun s1 H1 C1 cl1 fp1 => ets_nil) (fun s1 H1 C1 cl1 fp1 => (ev_var (pv 10)))))
    eb_nil)))
theorem ok__law_game (D : Top K mg) : FnT P w K mg base "_law_game" 3 1 m__law_game := by
  obtain ⟨f, fd, F, hm, hb⟩ := D.d__law_game
  exact fnD_of F sc__law_game hm hb rfl fun cdv A outer s H E G =>
    (eb_cons (es_asg (is := [1, 2, 3, 4, 5, 6, 7]) (ev_call G (ok__law_drawn D) (by decide) (by rfl) (el_cons (ev_var (pv 0)) (el_cons (ev_lst (el_cons ev_int (el_cons ev_int (el_cons ev_int (el_cons ev_int (el_cons ev_int (el_cons ev_int (el_cons ev_int el_nil)))))))) el_nil)) (hfl := (ll_cons (ll_cons ll_nil)))) (eg_tup G (egs_cons (eg_name (i := 1) G.nd rfl (by first | exact .inl rfl | exact .inr rfl)) (egs_cons (eg_name (i := 2) G.nd rfl (by first | exact .inl rfl | exact .inr rfl)) (egs_cons (eg_name (i := 3) G.nd rfl (by first | exact .inl rfl | exact .inr rfl)) (egs_cons (eg_name (i := 4) G.nd rfl (by first | exact .inl rfl | exact .inr rfl)) (egs_cons (eg_name (i := 5) G.nd rfl (by first | exact .inl rfl | exact .inr rfl)) (egs_cons (eg_name (i := 6) G.nd rfl (by first | exact .inl rfl | exact .inr rfl)) (egs_cons (eg_name (i := 7) G.nd rfl (by first | exact .inl rfl | exact .inr rfl)) egs_nil)))))))))
    (eb_cons (es_set (i := 8) G.nd rfl (by first | exact .inl rfl | exact .inr rfl) (ev_sub_ix G (ev_lst (el_cons (ev_tup (el_cons (ev_add ev_int (ev_var (pv 2))) (el_cons (ev_add ev_int (ev_var (pv 3))) el_nil))) (el_cons (ev_tup (el_cons (ev_add ev_int (ev_mod (ev_var (pv 2)) ev_int)) (el_cons (ev_add ev_int (ev_mod (ev_var (pv 3)) ev_int)) el_nil))) (el_cons (ev_tup (el_cons (ev_add ev_int (ev_mod (ev_var (pv 2)) ev_int)) (el_cons (ev_add ev_int (ev_mod (ev_var (pv 3)) ev_int)) el_nil))) el_nil)))) (ev_b (b_min G.calm D.n_min) (by rfl) (el_cons (ev_var (pv 1)) (el_cons ev_int el_nil)))))
    (eb_cons (es_if (et_cmp (ec_eq G (ev_var (pv 1)) ev_int)) (eb_cons (es_set (i := 8) G.nd rfl (by first | exact .inl rfl | exact .inr rfl) (ev_tup (el_cons ev_int (el_cons (ev_add ev_int (ev_var (pv 3))) el_nil))))
    eb_nil) eb_nil)
    (eb_cons (es_set (i := 9) G.nd rfl (by first | exact .inl rfl | exact .inr rfl) (ev_sub_ix G (ev_lst (el_cons (ev_tup (el_cons (ev_add ev_int (ev_var (pv 4))) el_nil)) (el_cons (ev_tup (el_cons (ev_add ev_int (ev_mod (ev_var (pv 4)) ev_int)) (el_cons (ev_add ev_int (ev_mod (ev_var (pv 5)) ev_int)) el_nil))) (el_cons (ev_tup (el_cons (ev_add ev_int (ev_mod (ev_var (pv 4)) ev_int)) (el_cons (ev_add ev_int (ev_mod (ev_var (pv 5)) ev_int)) (el_cons (ev_add ev_int (ev_mod (ev_var (pv 6)) ev_int)) el_nil)))) el_nil)))) (ev_mod (ev_var (pv 1)) ev_int)))
    (eb_cons (es_if (et_cmp (ec_eq G (ev_var (pv 1)) ev_int)) (eb_cons (es_set (i := 9) G.nd rfl (by first | exact .inl rfl | exact .inr rfl) (ev_tup (el_cons (ev_add ev_int (ev_mod (ev_var (pv 4)) ev_int)) (el_cons (ev_add ev_int (ev_mod (ev_var (pv 5)) ev_int)) (el_cons (ev_add ev_int (ev_mod (ev_var (pv 6)) ev_int)) el_nil)))))
    eb_nil) eb_nil)
    (eb_cons (es_set (i := 9) G.nd rfl (by first | exact .inl rfl | exact .inr rfl) (ev_ty (b_tuple D.n_tuple) (by rfl) (el_cons (ev_rev (ev_b (b_sorted G D.n_sorted) (by rfl) (el_cons (ev_var (pv 9)) el_nil))) el_nil)))
    (eb_cons (es_ret (ev_tup (el_cons (ev_var (pv 8)) (el_cons (ev_var (pv 9)) (el_cons (ev_sub_ix G (ev_lst (el_cons ev_str (el_cons ev_str (el_cons ev_str el_nil)))) (ev_var (pv 7))) el_nil)))))
    eb_nil)))))))
theorem ok__law_played (D : Top K mg) : FnT P w K mg base "_law_played" 4 1 m__law_played := by
  obtain ⟨f, fd, F, hm, hb⟩ := D.d__law_played
  exact fnD_of F sc__law_played hm hb rfl fun cdv A outer s H E G =>
    (eb_cons (es_asg (is := [1, 2, 3]) (ev_call G (ok__law_game D) (by decide) (by rfl) (el_cons (ev_var (pv 0)) el_nil) (hfl := (ll_cons ll_nil))) (eg_tup G (egs_cons (eg_name (i := 1) G.nd rfl (by first | exact .inl rfl | exact .inr rfl)) (egs_cons (eg_name (i := 2) G.nd rfl (by first | exact .inl rfl | exact .inr rfl)) (egs_cons (eg_name (i := 3) G.nd rfl (by first | exact .inl rfl | exact .inr rfl)) egs_nil)))))
    (eb_cons (es_set (i := 4) G.nd rfl (by first | exact .inl rfl | exact .inr rfl) (ev_call G (ok__law_all D) (by decide) (by rfl) (el_cons (ev_var (pv 1)) (el_cons (ev_var (pv 2)) (el_cons (ev_var (pv 3)) el_nil))) (hfl := (ll_cons (ll_cons (ll_cons ll_nil))))))
    (eb_cons (es_if (et_cmp (ec_eq G (ev_var (pv 4)) (ev_lst el_nil))) (eb_cons (es_set (i := 2) G.nd rfl (by first | exact .inl rfl | exact .inr rfl) (ev_tup (el_cons ev_int el_nil)))
    (eb_cons (es_set (i := 4) G.nd rfl (by first | exact .inl rfl | exact .inr rfl) (ev_call G (ok__law_all D) (by decide) (by rfl) (el_cons (ev_var (pv 1)) (el_cons (ev_var (pv 2)) (el_cons (ev_var (pv 3)) el_nil))) (hfl := (ll_cons (ll_cons (ll_cons ll_nil))))))
    eb_nil)) eb_nil)
    (eb_cons (es_ret (ev_tup (el_cons (ev_var (pv 1)) (el_cons (ev_var (pv 2)) (el_cons (ev_var (pv 3)) (el_cons (ev_var (pv 4)) el_nil))))))
    eb_nil))))
theorem ok__law_answers (D : Top K mg) : FnT P w K mg base "_law_answers" 2 2 m__law_answers := by
  obtain ⟨f, fd, F, hm, hb⟩ := D.d__law_answers
  exact fnD_of F sc__law_answers hm hb rfl fun cdv A outer s H E G =>
    (eb_cons (es_setLc (i := 2) G rfl rfl (sw_true rfl rfl rfl (by decide +kernel)) (ei_val (ev_var (pv 0))) (blkOk_by (N := N__law_answers) (sc := defScope s__law_answers) (own := [("ship", 8)]) (by decide +kernel)) (fun s1 H1 C1 cl1 fp1 => (eg_name (i := 8) (G.blk s1 H1 _ _ fp1).nd rfl (by first | exact .inl rfl | exact .inr rfl))) (fun s1 H1 C1 cl1 fp1 => ets_nil) (fun s1 H1 C1 cl1 fp1 => (ev_b (b_len D.n_len) (by rfl) (el_cons (ev_call (G.blk s1 H1 _ _ fp1) (ok__law_cells D) (by decide) (by rfl) (el_cons (ev_var (pv 8)) el_nil) (hfl := (ll_cons ll_nil))) el_nil))))
    (eb_cons (es_setLc (i := 3) G rfl rfl (sw_true rfl rfl rfl (by decide +kernel)) (ei_val (ev_var (pv 0))) (blkOk_by (N := N__law_answers) (sc := defScope s__law_answers) (own := [("ship", 8)]) (by decide +kernel)) (fun s1 H1 C1 cl1 fp1 => (eg_name (i := 8) (G.blk s1 H1 _ _ fp1).nd rfl (by first | exact .inl rfl | exact .inr rfl))) (fun s1 H1 C1 cl1 fp1 => ets_nil) (fun s1 H1 C1 cl1 fp1 => (ev_call (G.blk s1 H1 _ _ fp1) (ok__law_cells D) (by decide) (by rfl) (el_cons (ev_var (pv 8)) el_nil) (hfl := (ll_cons ll_nil)))))
    (eb_cons (es_set (i := 4) G.nd rfl (by first | exact .inl rfl | exact .inr rfl) (ev_lst el_nil))
    (eb_cons (es_for (is := [5]) [5, 6, 7] G (ei_val (ev_var (pv 1))) (eg_name (i := 5) G.nd rfl (by first | exact .inl rfl | exact .inr rfl)) (eb_cons (es_set (i := 6) G.nd rfl (by first | exact .inl rfl | exact .inr rfl) ev_str)
    (eb_cons (es_for (is := [7]) [7] G (ei_range1 (by rfl) D.n_range (ev_b (b_len D.n_len) (by rfl) (el_cons (ev_var (pv 0)) el_nil))) (eg_name (i := 7) G.nd rfl (by first | exact .inl rfl | exact .inr rfl)) (eb_cons (es_if (et_cmp (ec_in G (ev_var (pv 5)) (ev_sub_ix G (ev_var (pv 3)) (ev_var (pv 7))))) (eb_cons (es_setIx (i := 2) G (pv 2) (ev_var (pv 7)) (ev_sub (ev_subL G (pv 2) (ev_var (pv 7))) ev_int))
    (eb_cons (es_set (i := 6) G.nd rfl (by first | exact .inl rfl | exact .inr rfl) (ev_sub_ix G (ev_lst (el_cons ev_str (el_cons ev_str el_nil))) (ev_ty (b_int D.n_int) (by rfl) (el_cons (ee_cmp (ec_eq G (ev_subL G (pv 2) (ev_var (pv 7))) ev_int)) el_nil))))
    eb_nil)) eb_nil)
    eb_nil))
    (eb_cons (es_expr (ev_mt opm_app (by decide) (pe_bm PySem.F.plainAttrs_list PySem.F.slot_list_append PySem.F.type_list_append mt_append (pv 4) (el_cons (ev_var (pv 6)) el_nil))))
    eb_nil))))
    (eb_cons (es_ret (ev_mv (pv 4)))
    eb_nil)))))
theorem ok__law_sheet_cells (D : Top K mg) : FnT P w K mg base "_law_sheet_cells" 1 1 m__law_sheet_cells := by
  obtain ⟨f, fd, F, hm, hb⟩ := D.d__law_sheet_cells
  exact fnD_of F sc__law_sheet_cells hm hb rfl fun cdv A outer s H E G =>
    (eb_cons (es_set (i := 1) G.nd rfl (by first | exact .inl rfl | exact .inr rfl) (ev_lst el_nil))
    (eb_cons (es_for (is := [2]) [2, 3] G (ei_range1 (by rfl) D.n_range (ev_sub_ix G (ev_var (pv 0)) ev_int)) (eg_name (i := 2) G.nd rfl (by first | exact .inl rfl | exact .inr rfl)) (eb_cons (es_expr (ev_mt opm_ext (by decide) (pe_bm PySem.F.plainAttrs_list PySem.F.slot_list_extend PySem.F.type_list_extend mt_extend (pv 1) (el_cons (ev_lc G (ei_range1 (by rfl) D.n_range (ev_sub_ix G (ev_var (pv 0)) ev_int)) (blkOk_by (N := N__law_sheet_cells) (sc := defScope s__law_sheet_cells) (own := [("column", 3)]) (by decide +kernel)) (fun s1 H1 C1 cl1 fp1 => (eg_name (i := 3) (G.blk s1 H1 _ _ fp1).nd rfl (by first | exact .inl rfl | exact .inr rfl))) (fun s1 H1 C1 cl1 fp1 => ets_nil) (fun s1 H1 C1 cl1 fp1 => (ev_tup (el_cons (ev_var (pv 2)) (el_cons (ev_var (pv 3)) el_nil))))) el_nil))))
    eb_nil))
    (eb_cons (es_ret (ev_mv (pv 1)))
    eb_nil)))
theorem ok__law_order (D : Top K mg) : FnT P w K mg base "_law_order" 2 2 m__law_order := by
  obtain ⟨f, fd, F, hm, hb⟩ := D.d__law_order
  exact fnD_of F sc__law_order hm hb rfl fun cdv A outer s H E G =>
    (eb_cons (es_set (i := 2) G.nd rfl (by first | exact .inl rfl | exact .inr rfl) (ev_lst el_nil))
    (eb_cons (es_for (is := [3, 4]) [3, 4] G (ei_enumA (by rfl) D.n_enumerate (ev_var (pv 1))) (eg_tup G (egs_cons (eg_name (i := 3) G.nd rfl (by first | exact .inl rfl | exact .inr rfl)) (egs_cons (eg_name (i := 4) G.nd rfl (by first | exact .inl rfl | exact .inr rfl)) egs_nil))) (eb_cons (es_expr (ev_mt opm_ins (by decide) (pe_bm PySem.F.plainAttrs_list PySem.F.slot_list_insert PySem.F.type_list_insert mt_insert (pv 2) (el_cons (ev_mod (ev_call G (ok__law_stir D) (by decide) (by rfl) (el_cons (ev_var (pv 0)) (el_cons (ev_add (ev_mul ev_int (ev_var (pv 3))) ev_int) el_nil)) (hfl := (ll_cons (ll_cons ll_nil)))) (ev_add (ev_var (pv 3)) ev_int)) (el_cons (ev_var (pv 4)) el_nil)))))
    eb_nil))
    (eb_cons (es_ret (ev_mv (pv 2)))
    eb_nil)))
theorem ok_law {f : Addr} {fd : FuncData} (D : Top K mg) (F : FunD K "law" "law" (defArgs s_law) (defBody s_law) (defScope s_law) [] [] f fd) : FnOk P w K mg base (L2.CX P w) 5 f fd ["script"] (spP K mg 1 m_law) :=
  fnOk_of F sc_law rfl fun cdv A outer s H E G =>
    (eb_cons (es_for (is := [1]) [1, 2, 3, 4, 5, 6, 7, 8, 9, 10, 11, 12, 13, 14, 15] G (ei_val (ev_add (ev_lst (el_cons ev_int el_nil)) (ev_sl (ev_var (pv 0)) eo_none (eo_some ev_int)))) (eg_name (i := 1) G.nd rfl (by first | exact .inl rfl | exact .inr rfl)) (eb_cons (es_asg (is := [2, 3, 4, 5]) (ev_call G (ok__law_played D) (by decide) (by rfl) (el_cons (ev_var (pv 1)) el_nil) (hfl := (ll_cons ll_nil))) (eg_tup G (egs_cons (eg_name (i := 2) G.nd rfl (by first | exact .inl rfl | exact .inr rfl)) (egs_cons (eg_name (i := 3) G.nd rfl (by first | exact .inl rfl | exact .inr rfl)) (egs_cons (eg_name (i := 4) G.nd rfl (by first | exact .inl rfl | exact .inr rfl)) (egs_cons (eg_name (i := 5) G.nd rfl (by first | exact .inl rfl | exact .inr rfl)) egs_nil))))))
    (eb_cons (es_for (is := [6]) [6, 7, 8, 9, 10, 11, 12, 13, 14, 15] G (ei_range1 (by rfl) D.n_range ev_int) (eg_name (i := 6) G.nd rfl (by first | exact .inl rfl | exact .inr rfl)) (eb_cons (es_set (i := 7) G.nd rfl (by first | exact .inl rfl | exact .inr rfl) (ev_sub_ix G (ev_var (pv 5)) (ev_mod (ev_call G (ok__law_stir D) (by decide) (by rfl) (el_cons (ev_var (pv 1)) (el_cons (ev_add ev_int (ev_var (pv 6))) el_nil)) (hfl := (ll_cons (ll_cons ll_nil)))) (ev_b (b_len D.n_len) (by rfl) (el_cons (ev_var (pv 5)) el_nil)))))
    (eb_cons (es_set (i := 8) G.nd rfl (by first | exact .inl rfl | exact .inr rfl) (ev_call G (ok__law_order D) (by decide) (by rfl) (el_cons (ev_add (ev_var (pv 1)) (ev_mul ev_int (ev_var (pv 6)))) (el_cons (ev_call G (ok__law_sheet_cells D) (by decide) (by rfl) (el_cons (ev_var (pv 2)) el_nil) (hfl := (ll_cons ll_nil))) el_nil)) (hfl := (ll_cons (ll_cons ll_nil)))))
    (eb_cons (es_set (i := 9) G.nd rfl (by first | exact .inl rfl | exact .inr rfl) (ev_sl (ev_var (pv 8)) eo_none (eo_some (ev_sub_ix G (ev_lst (el_cons (ev_b (b_len D.n_len) (by rfl) (el_cons (ev_var (pv 8)) el_nil)) (el_cons ev_int (el_cons (ev_mod (ev_call G (ok__law_stir D) (by decide) (by rfl) (el_cons (ev_var (pv 1)) (el_cons (ev_add ev_int (ev_var (pv 6))) el_nil)) (hfl := (ll_cons (ll_cons ll_nil)))) (ev_add (ev_b (b_len D.n_len) (by rfl) (el_cons (ev_var (pv 8)) el_nil)) ev_int)) (el_cons (ev_b (b_len D.n_len) (by rfl) (el_cons (ev_var (pv 8)) el_nil)) el_nil))))) (ev_var (pv 6))))))
    (eb_cons (es_set (i := 10) G.nd rfl (by first | exact .inl rfl | exact .inr rfl) (ev_call G (ok__law_answers D) (by decide) (by rfl) (el_cons (ev_var (pv 7)) (el_cons (ev_var (pv 9)) el_nil)) (hfl := (ll_cons (ll_cons ll_nil)))))
    (eb_cons (es_set (i := 11) G.nd rfl (by first | exact .inl rfl | exact .inr rfl) (ev_ty (b_list D.n_list) (by rfl) (el_cons (ev_var (pv 9)) el_nil)))
    (eb_cons (es_if (et_w (ew_or (et_cmp (ec_ne G (ev_call G (ok_answers_of D) (by decide) (by rfl) (el_cons (ev_var (pv 7)) (el_cons (ev_var (pv 11)) el_nil)) (hfl := (ll_cons (ll_cons ll_nil)))) (ev_var (pv 10)))) (ew_or1 (et_cmp (ec_ne G (ev_var (pv 11)) (ev_var (pv 9))))))) (eb_cons (es_ret ev_bl)
    eb_nil) eb_nil)
    (eb_cons (es_set (i := 12) G.nd rfl (by first | exact .inl rfl | exact .inr rfl) (ev_lz G (by rfl) D.n_list (by rfl) D.n_zip (el_cons (ev_var (pv 9)) (el_cons (ev_var (pv 10)) el_nil))))
    (eb_cons (es_if (et_cmp (ec_isntB (ev_call G (ok_fits D) (by decide) (by rfl) (el_cons (ev_var (pv 7)) (el_cons (ev_ty (b_list D.n_list) (by rfl) (el_cons (ev_var (pv 12)) el_nil)) el_nil)) (hfl := (ll_cons (ll_cons ll_nil)))) ev_bl)) (eb_cons (es_ret ev_bl)
    eb_nil) eb_nil)
    (eb_cons (es_for (is := [13]) [13, 14, 15] G (ei_range3 (by rfl) D.n_range (el_cons ev_int (el_cons (ev_b (b_len D.n_len) (by rfl) (el_cons (ev_var (pv 9)) el_nil)) (el_cons (ev_add ev_int (ev_fdiv (ev_b (b_len D.n_len) (by rfl) (el_cons (ev_var (pv 9)) el_nil)) ev_int)) el_nil)))) (eg_name (i := 13) G.nd rfl (by first | exact .inl rfl | exact .inr rfl)) (eb_cons (es_for (is := [14]) [14, 15] G (ei_val (ev_tup (el_cons ev_str (el_cons ev_str (el_cons ev_str el_nil))))) (eg_name (i := 14) G.nd rfl (by first | exact .inl rfl | exact .inr rfl)) (eb_cons (es_set (i := 15) G.nd rfl (by first | exact .inl rfl | exact .inr rfl) (ev_add (ev_add (ev_sl (ev_var (pv 12)) eo_none (eo_some (ev_var (pv 13)))) (ev_lst (el_cons (ev_tup (el_cons (ev_sub_ix G (ev_var (pv 9)) (ev_var (pv 13))) (el_cons (ev_var (pv 14)) el_nil))) el_nil))) (ev_sl (ev_var (pv 12)) (eo_some (ev_add (ev_var (pv 13)) ev_int)) eo_none)))
    (eb_cons (es_if (et_cmp (ec_ne G (ev_call G (ok_fits D) (by decide) (by rfl) (el_cons (ev_var (pv 7)) (el_cons (ev_var (pv 15)) el_nil)) (hfl := (ll_cons (ll_cons ll_nil)))) (ee_cmp (ec_eq G (ev_var (pv 14)) (ev_sub_ix G (ev_var (pv 10)) (ev_var (pv 13))))))) (eb_cons (es_ret ev_bl)
    eb_nil) eb_nil)
    eb_nil)))
    eb_nil))
    eb_nil))))))))))
    eb_nil)))
    (eb_cons (es_ret ev_bl)
    eb_nil))
end
def dd_cells_of : He.DefD := ⟨("cells_of", none), "cells_of", "cells_of", defArgs s_cells_of, defBody s_cells_of, defScope s_cells_of, [], []⟩
def dd_bit_of : He.DefD := ⟨("bit_of", none), "bit_of", "bit_of", defArgs s_bit_of, defBody s_bit_of, defScope s_bit_of, [], []⟩
def dd_bits_of : He.DefD := ⟨("bits_of", none), "bits_of", "bits_of", defArgs s_bits_of, defBody s_bits_of, defScope s_bits_of, [], []⟩
def dd_answer_of : He.DefD := ⟨("answer_of", none), "answer_of", "answer_of", defArgs s_answer_of, defBody s_answer_of, defScope s_answer_of, [], []⟩
def dd_answers_of : He.DefD := ⟨("answers_of", none), "answers_of", "answers_of", defArgs s_answers_of, defBody s_answers_of, defScope s_answers_of, [], []⟩
def dd_fits : He.DefD := ⟨("fits", none), "fits", "fits", defArgs s_fits, defBody s_fits, defScope s_fits, [], []⟩
def dd__law_stir : He.DefD := ⟨("_law_stir", none), "_law_stir", "_law_stir", defArgs s__law_stir, defBody s__law_stir, defScope s__law_stir, [], []⟩
def dd__law_drawn : He.DefD := ⟨("_law_drawn", none), "_law_drawn", "_law_drawn", defArgs s__law_drawn, defBody s__law_drawn, defScope s__law_drawn, [], []⟩
def dd__law_cells : He.DefD := ⟨("_law_cells", none), "_law_cells", "_law_cells", defArgs s__law_cells, defBody s__law_cells, defScope s__law_cells, [], []⟩
def dd__law_ships : He.DefD := ⟨("_law_ships", none), "_law_ships", "_law_ships", defArgs s__law_ships, defBody s__law_ships, defScope s__law_ships, [], []⟩
def dd__law_halo : He.DefD := ⟨("_law_halo", none), "_law_halo", "_law_halo", defArgs s__law_halo, defBody s__law_halo, defScope s__law_halo, [], []⟩
def dd__law_free : He.DefD := ⟨("_law_free", none), "_law_free", "_law_free", defArgs s__law_free, defBody s__law_free, defScope s__law_free, [], []⟩
def dd__law_all : He.DefD := ⟨("_law_all", none), "_law_all", "_law_all", defArgs s__law_all, defBody s__law_all, defScope s__law_all, [], []⟩
def dd__law_game : He.DefD := ⟨("_law_game", none), "_law_game", "_law_game", defArgs s__law_game, defBody s__law_game, defScope s__law_game, [], []⟩
def dd__law_played : He.DefD := ⟨("_law_played", none), "_law_played", "_law_played", defArgs s__law_played, defBody s__law_played, defScope s__law_played, [], []⟩
def dd__law_answers : He.DefD := ⟨("_law_answers", none), "_law_answers", "_law_answers", defArgs s__law_answers, defBody s__law_answers, defScope s__law_answers, [], []⟩
def dd__law_sheet_cells : He.DefD := ⟨("_law_sheet_cells", none), "_law_sheet_cells", "_law_sheet_cells", defArgs s__law_sheet_cells, defBody s__law_sheet_cells, defScope s__law_sheet_cells, [], []⟩
def dd__law_order : He.DefD := ⟨("_law_order", none), "_law_order", "_law_order", defArgs s__law_order, defBody s__law_order, defScope s__law_order, [], []⟩
def dd_law : He.DefD := ⟨("law", none), "law", "law", defArgs s_law, defBody s_law, defScope s_law, [], []⟩
def fnL : List He.DefD := [dd_cells_of, dd_bit_of, dd_bits_of, dd_answer_of, dd_answers_of, dd_fits, dd__law_stir, dd__law_drawn, dd__law_cells, dd__law_ships, dd__law_halo, dd__law_free, dd__law_all, dd__law_game, dd__law_played, dd__law_answers, dd__law_sheet_cells, dd__law_order, dd_law]
def faL : List He.Fa := [.glo "cells_of", .glo "bit_of", .glo "bits_of", .glo "answer_of", .glo "answers_of", .glo "fits", .glo "_law_stir", .glo "_law_drawn", .glo "_law_cells", .glo "_law_ships", .glo "_law_halo", .glo "_law_free", .glo "_law_all", .glo "_law_game", .glo "_law_played", .glo "_law_answers", .glo "_law_sheet_cells", .glo "_law_order", .glo "law", .free "enumerate", .free "int", .free "len", .free "list", .free "min", .free "range", .free "sorted", .free "sum", .free "tuple", .free "zip"]
def exL (K : PySem.W.Frag) : Bool := true
abbrev RW : PySem.W.OpenRow := PySem.W.OpenLaw.row PySem.Challenge.rw_fleethide_k07_answers_by_walk
abbrev hkL : PySem.W.Hook := He.hookX 5 faL fnL [] [] exL
def obL (s : PySem.W.SharedT) : He.AlX := He.obsX 5 faL fnL [] [] exL (HandSHeadRun.getT s)
theorem obL_eq (s : PySem.W.SharedT) : obL s = hkL.obs s.abs := He.obsX_eq (HandSHeadRun.getT_eq s)
def looseL : List Str := (["cells_of", "bit_of", "bits_of", "answer_of", "answers_of", "fits", "_law_stir", "_law_drawn", "_law_cells", "_law_ships", "_law_halo", "_law_all", "_law_free", "_law_game", "_law_played", "_law_answers", "_law_sheet_cells", "_law_order"] : List Str)
theorem runL (w : World) : HandSHeadRun.RunEq RW (PySem.W.view RW.prog [22]) hkL obL 1780 looseL w := by
  intro os
  kernel_rfl
theorem topL {w : World} {K : PySem.W.Frag} {h : Heap} {mg : Str → Option Value} (X : K.In h) (G : h.Ns mainGlobals mg) (c : He.SaysX faL fnL [] [] exL w h K) : Top K mg where
  d_cells_of := by
    obtain ⟨fd, F⟩ := c.t.d.def_ 0 (d := dd_cells_of) rfl
    exact ⟨_, fd, F, He.glo_ok X G (c.t.d.fact 0 (f := .glo "cells_of") rfl), FunD.bindsN F fun _ _ _ _ _ _ us hl => match us, hl with | [_], _ => rfl⟩
  d_bit_of := by
    obtain ⟨fd, F⟩ := c.t.d.def_ 1 (d := dd_bit_of) rfl
    exact ⟨_, fd, F, He.glo_ok X G (c.t.d.fact 1 (f := .glo "bit_of") rfl), FunD.bindsN F fun _ _ _ _ _ _ us hl => match us, hl with | [_], _ => rfl⟩
  d_bits_of := by
    obtain ⟨fd, F⟩ := c.t.d.def_ 2 (d := dd_bits_of) rfl
    exact ⟨_, fd, F, He.glo_ok X G (c.t.d.fact 2 (f := .glo "bits_of") rfl), FunD.bindsN F fun _ _ _ _ _ _ us hl => match us, hl with | [_], _ => rfl⟩
  d_answer_of := by
    obtain ⟨fd, F⟩ := c.t.d.def_ 3 (d := dd_answer_of) rfl
    exact ⟨_, fd, F, He.glo_ok X G (c.t.d.fact 3 (f := .glo "answer_of") rfl), FunD.bindsN F fun _ _ _ _ _ _ us hl => match us, hl with | [_, _, _], _ => rfl⟩
  d_answers_of := by
    obtain ⟨fd, F⟩ := c.t.d.def_ 4 (d := dd_answers_of) rfl
    exact ⟨_, fd, F, He.glo_ok X G (c.t.d.fact 4 (f := .glo "answers_of") rfl), FunD.bindsN F fun _ _ _ _ _ _ us hl => match us, hl with | [_, _], _ => rfl⟩
  d_fits := by
    obtain ⟨fd, F⟩ := c.t.d.def_ 5 (d := dd_fits) rfl
    exact ⟨_, fd, F, He.glo_ok X G (c.t.d.fact 5 (f := .glo "fits") rfl), FunD.bindsN F fun _ _ _ _ _ _ us hl => match us, hl with | [_, _], _ => rfl⟩
  d__law_stir := by
    obtain ⟨fd, F⟩ := c.t.d.def_ 6 (d := dd__law_stir) rfl
    exact ⟨_, fd, F, He.glo_ok X G (c.t.d.fact 6 (f := .glo "_law_stir") rfl), FunD.bindsN F fun _ _ _ _ _ _ us hl => match us, hl with | [_, _], _ => rfl⟩
  d__law_drawn := by
    obtain ⟨fd, F⟩ := c.t.d.def_ 7 (d := dd__law_drawn) rfl
    exact ⟨_, fd, F, He.glo_ok X G (c.t.d.fact 7 (f := .glo "_law_drawn") rfl), FunD.bindsN F fun _ _ _ _ _ _ us hl => match us, hl with | [_, _], _ => rfl⟩
  d__law_cells := by
    obtain ⟨fd, F⟩ := c.t.d.def_ 8 (d := dd__law_cells) rfl
    exact ⟨_, fd, F, He.glo_ok X G (c.t.d.fact 8 (f := .glo "_law_cells") rfl), FunD.bindsN F fun _ _ _ _ _ _ us hl => match us, hl with | [_], _ => rfl⟩
  d__law_ships := by
    obtain ⟨fd, F⟩ := c.t.d.def_ 9 (d := dd__law_ships) rfl
    exact ⟨_, fd, F, He.glo_ok X G (c.t.d.fact 9 (f := .glo "_law_ships") rfl), FunD.bindsN F fun _ _ _ _ _ _ us hl => match us, hl with | [_, _], _ => rfl⟩
  d__law_halo := by
    obtain ⟨fd, F⟩ := c.t.d.def_ 10 (d := dd__law_halo) rfl
    exact ⟨_, fd, F, He.glo_ok X G (c.t.d.fact 10 (f := .glo "_law_halo") rfl), FunD.bindsN F fun _ _ _ _ _ _ us hl => match us, hl with | [_, _], _ => rfl⟩
  d__law_free := by
    obtain ⟨fd, F⟩ := c.t.d.def_ 11 (d := dd__law_free) rfl
    exact ⟨_, fd, F, He.glo_ok X G (c.t.d.fact 11 (f := .glo "_law_free") rfl), FunD.bindsN F fun _ _ _ _ _ _ us hl => match us, hl with | [_, _], _ => rfl⟩
  d__law_all := by
    obtain ⟨fd, F⟩ := c.t.d.def_ 12 (d := dd__law_all) rfl
    exact ⟨_, fd, F, He.glo_ok X G (c.t.d.fact 12 (f := .glo "_law_all") rfl), FunD.bindsN F fun _ _ _ _ _ _ us hl => match us, hl with | [_, _, _], _ => rfl⟩
  d__law_game := by
    obtain ⟨fd, F⟩ := c.t.d.def_ 13 (d := dd__law_game) rfl
    exact ⟨_, fd, F, He.glo_ok X G (c.t.d.fact 13 (f := .glo "_law_game") rfl), FunD.bindsN F fun _ _ _ _ _ _ us hl => match us, hl with | [_], _ => rfl⟩
  d__law_played := by
    obtain ⟨fd, F⟩ := c.t.d.def_ 14 (d := dd__law_played) rfl
    exact ⟨_, fd, F, He.glo_ok X G (c.t.d.fact 14 (f := .glo "_law_played") rfl), FunD.bindsN F fun _ _ _ _ _ _ us hl => match us, hl with | [_], _ => rfl⟩
  d__law_answers := by
    obtain ⟨fd, F⟩ := c.t.d.def_ 15 (d := dd__law_answers) rfl
    exact ⟨_, fd, F, He.glo_ok X G (c.t.d.fact 15 (f := .glo "_law_answers") rfl), FunD.bindsN F fun _ _ _ _ _ _ us hl => match us, hl with | [_, _], _ => rfl⟩
  d__law_sheet_cells := by
    obtain ⟨fd, F⟩ := c.t.d.def_ 16 (d := dd__law_sheet_cells) rfl
    exact ⟨_, fd, F, He.glo_ok X G (c.t.d.fact 16 (f := .glo "_law_sheet_cells") rfl), FunD.bindsN F fun _ _ _ _ _ _ us hl => match us, hl with | [_], _ => rfl⟩
  d__law_order := by
    obtain ⟨fd, F⟩ := c.t.d.def_ 17 (d := dd__law_order) rfl
    exact ⟨_, fd, F, He.glo_ok X G (c.t.d.fact 17 (f := .glo "_law_order") rfl), FunD.bindsN F fun _ _ _ _ _ _ us hl => match us, hl with | [_, _], _ => rfl⟩
  d_law := by
    obtain ⟨fd, F⟩ := c.t.d.def_ 18 (d := dd_law) rfl
    exact ⟨_, fd, F, He.glo_ok X G (c.t.d.fact 18 (f := .glo "law") rfl), FunD.bindsN F fun _ _ _ _ _ _ us hl => match us, hl with | [_], _ => rfl⟩
  n_enumerate := He.free_ok X G (c.t.d.fact 19 (f := .free "enumerate") rfl)
  n_int := He.free_ok X G (c.t.d.fact 20 (f := .free "int") rfl)
  n_len := He.free_ok X G (c.t.d.fact 21 (f := .free "len") rfl)
  n_list := He.free_ok X G (c.t.d.fact 22 (f := .free "list") rfl)
  n_min := He.free_ok X G (c.t.d.fact 23 (f := .free "min") rfl)
  n_range := He.free_ok X G (c.t.d.fact 24 (f := .free "range") rfl)
  n_sorted := He.free_ok X G (c.t.d.fact 25 (f := .free "sorted") rfl)
  n_sum := He.free_ok X G (c.t.d.fact 26 (f := .free "sum") rfl)
  n_tuple := He.free_ok X G (c.t.d.fact 27 (f := .free "tuple") rfl)
  n_zip := He.free_ok X G (c.t.d.fact 28 (f := .free "zip") rfl)

end K07
namespace K07
open PySem PySem.Spec L2 Ev Com
open PyProof.Rows hiding St
def q_law_1 (v1001 : OV) (v1051 : OV) (v1057 : OV) (v1081 : OV) (x1113 : PyData) (x1217 : PyData) (s1216 : Unit) : O (Unit) :=
  O.bind (O.of (R.bind (R.bind (R.bind (R.ok (.sh (fz v1081))) fun e1262 => R.bind (R.ok none) fun i1263 => R.bind (R.bind (R.ok (.sh x1113)) fun e1260 => R.bind (iR e1260) fun i1261 => .ok (some i1261)) fun i1264 => ofOR (gSl e1262 i1263 i1264)) fun e1275 => R.bind (R.bind (R.bind (R.bind (R.bind (R.bind (R.ok (.sh (fz v1051))) fun e1265 => R.bind (R.ok (.sh x1113)) fun e1266 => ofOR (gSub e1265 e1266)) fun e1269 => R.bind (R.bind (R.ok (.sh x1217)) fun e1267 => R.bind (R.ok []) fun l1268 => .ok (e1267 :: l1268)) fun l1270 => .ok (e1269 :: l1270)) fun l1271 => szR l1271.length (.sh (.tuple (l1271.map fz)))) fun e1272 => R.bind (R.ok []) fun l1273 => .ok (e1272 :: l1273)) fun l1274 => szR l1274.length (.lst l1274)) fun e1276 => ofOR (gAdd e1275 e1276)) fun e1284 => R.bind (R.bind (R.ok (.sh (fz v1081))) fun e1281 => R.bind (R.bind (R.bind (R.ok (.sh x1113)) fun e1277 => R.bind (R.ok (.sh (.int 1))) fun e1278 => ofOR (gAdd e1277 e1278)) fun e1279 => R.bind (iR e1279) fun i1280 => .ok (some i1280)) fun i1282 => R.bind (R.ok none) fun i1283 => ofOR (gSl e1281 i1282 i1283)) fun e1285 => ofOR (gAdd e1284 e1285))) fun v1286 => O.bind (O.bind (O.of (R.bind (R.bind (R.bind (R.bind (R.ok (.sh (fz v1001))) fun e1289 => R.bind (R.bind (R.ok (.sh (fz v1286))) fun e1287 => R.bind (R.ok []) fun l1288 => .ok (e1287 :: l1288)) fun l1290 => .ok (e1289 :: l1290)) fun l1291 => q_fits (l1291.map fz)) fun e1296 => R.bind (R.bind (R.ok (.sh x1217)) fun e1294 => R.bind (R.bind (R.ok (.sh (fz v1057))) fun e1292 => R.bind (R.ok (.sh x1113)) fun e1293 => ofOR (gSub e1292 e1293)) fun e1295 => ofOR (gEq false e1294 e1295)) fun e1297 => ofOR (gEq true e1296 e1297)) toBR)) fun b1301 => if b1301 = true then O.bind (O.of (R.ok (.sh (.bool false)))) fun o1300 => .ret o1300 else .next ()) fun s1299 => .next ()
theorem okq_law_1 (x13 : PyData) (t664 : List PyData) (v1001 : OV) (v1051 : OV) (v1057 : OV) (v1081 : OV) (x1113 : PyData) (x1217 : PyData) (s1216 : Unit) : jS b_law_1 [.no, .ex (.sh x13), .ex (.sh (nd t664 0)), .no, .no, .ex (.sh (nd t664 3)), .no, .ex (.sh (fz v1001)), .no, .ex (.sh (fz v1051)), .ex (.sh (fz v1057)), .no, .ex (.sh (fz v1081)), .ex (.sh x1113), .ex (.sh x1217), .no] (q_law_1 v1001 v1051 v1057 v1081 x1113 x1217 s1216) (fun (s1216 : Unit) => [.no, .ex (.sh x13), .ex (.sh (nd t664 0)), .no, .no, .ex (.sh (nd t664 3)), .no, .ex (.sh (fz v1001)), .no, .ex (.sh (fz v1051)), .ex (.sh (fz v1057)), .no, .ex (.sh (fz v1081)), .ex (.sh x1113), .no, .no]) := by
  unfold q_law_1 b_law_1
  exact (js_seq (st1 := fun (v1286 : OV) => [.no, .ex (.sh x13), .ex (.sh (nd t664 0)), .no, .no, .ex (.sh (nd t664 3)), .no, .ex (.sh (fz v1001)), .no, .ex (.sh (fz v1051)), .ex (.sh (fz v1057)), .no, .ex (.sh (fz v1081)), .ex (.sh x1113), .ex (.sh x1217), .ex v1286]) (js_set (j_bin (j_bin (j_sl (j_v rfl) j_ono (j_osome (j_v rfl))) (j_lst (j_lcons (j_tup (j_lcons (j_bin (j_v rfl) (j_v rfl)) (j_lcons (j_v rfl) j_lnil))) j_lnil))) (j_sl (j_v rfl) (j_osome (j_bin (j_v rfl) j_c)) j_ono))) fun v1286 => (js_seq (st1 := fun (s1299 : Unit) => [.no, .ex (.sh x13), .ex (.sh (nd t664 0)), .no, .no, .ex (.sh (nd t664 3)), .no, .ex (.sh (fz v1001)), .no, .ex (.sh (fz v1051)), .ex (.sh (fz v1057)), .no, .ex (.sh (fz v1081)), .ex (.sh x1113), .no, .no]) (js_if (j_test (j_bin (j_call okq_fits (j_lcons (j_v rfl) (j_lcons (j_vx rfl) j_lnil))) (j_bin (j_v rfl) (j_bin (j_v rfl) (j_v rfl))))) (js_retc j_c) (js_nil (by exact (.eq (.eq (.eq (.eq (.eq (.eq (.eq (.eq (.eq (.eq (.eq (.eq (.eq (.eq (.no (.no .nil))))))))))))))))))) fun s1299 => (js_nil .rf)))
def q_law_2 (v1001 : OV) (v1051 : OV) (v1057 : OV) (v1081 : OV) (x1113 : PyData) (s1112 : Unit) : O (Unit) :=
  O.bind (O.bind (O.of (R.bind (R.bind (R.bind (R.ok (.sh (.str "water"))) fun e1213 => R.bind (R.bind (R.ok (.sh (.str "hit"))) fun e1211 => R.bind (R.bind (R.ok (.sh (.str "sunk"))) fun e1209 => R.bind (R.ok []) fun l1210 => .ok (e1209 :: l1210)) fun l1212 => .ok (e1211 :: l1212)) fun l1214 => .ok (e1213 :: l1214)) fun l1215 => szR l1215.length (.sh (.tuple (l1215.map fz)))) itR)) fun z1302 => forO z1302 (fun x1217 s1216 => q_law_1 v1001 v1051 v1057 v1081 x1113 x1217 s1216) ()) fun s1303 => .next ()
theorem okq_law_2 (x13 : PyData) (t664 : List PyData) (v1001 : OV) (v1051 : OV) (v1057 : OV) (v1081 : OV) (x1113 : PyData) (s1112 : Unit) : jS b_law_2 [.no, .ex (.sh x13), .ex (.sh (nd t664 0)), .no, .no, .ex (.sh (nd t664 3)), .no, .ex (.sh (fz v1001)), .no, .ex (.sh (fz v1051)), .ex (.sh (fz v1057)), .no, .ex (.sh (fz v1081)), .ex (.sh x1113), .no, .no] (q_law_2 v1001 v1051 v1057 v1081 x1113 s1112) (fun (s1112 : Unit) => [.no, .ex (.sh x13), .ex (.sh (nd t664 0)), .no, .no, .ex (.sh (nd t664 3)), .no, .ex (.sh (fz v1001)), .no, .ex (.sh (fz v1051)), .ex (.sh (fz v1057)), .no, .ex (.sh (fz v1081)), .no, .no, .no]) := by
  unfold q_law_2 b_law_2
  exact (js_seq (st1 := fun (s1303 : Unit) => [.no, .ex (.sh x13), .ex (.sh (nd t664 0)), .no, .no, .ex (.sh (nd t664 3)), .no, .ex (.sh (fz v1001)), .no, .ex (.sh (fz v1051)), .ex (.sh (fz v1057)), .no, .ex (.sh (fz v1081)), .ex (.sh x1113), .no, .no]) (js_forN (st := fun (s1216 : Unit) => [.no, .ex (.sh x13), .ex (.sh (nd t664 0)), .no, .no, .ex (.sh (nd t664 3)), .no, .ex (.sh (fz v1001)), .no, .ex (.sh (fz v1051)), .ex (.sh (fz v1057)), .no, .ex (.sh (fz v1081)), .ex (.sh x1113), .no, .no]) (j_ival (j_tup (j_lcons j_c (j_lcons j_c (j_lcons j_c j_lnil))))) .rf (fun x1217 s1216 => okq_law_1 x13 t664 v1001 v1051 v1057 v1081 x1113 x1217 s1216) (fun _ => rfl)) fun s1303 => (js_nil (by exact (.eq (.eq (.eq (.eq (.eq (.eq (.eq (.eq (.eq (.eq (.eq (.eq (.eq (.no (.eq (.eq .nil)))))))))))))))))))
def q_law_3 (x13 : PyData) (t664 : List PyData) (x667 : PyData) (s666 : Unit) : O (Unit) :=
  O.bind (O.of (R.bind (R.ok (.sh (nd t664 3))) fun e999 => R.bind (R.bind (R.bind (R.bind (R.ok (.sh x13)) fun e991 => R.bind (R.bind (R.bind (R.ok (.sh (.int 500))) fun e987 => R.bind (R.ok (.sh x667)) fun e988 => ofOR (gAdd e987 e988)) fun e989 => R.bind (R.ok []) fun l990 => .ok (e989 :: l990)) fun l992 => .ok (e991 :: l992)) fun l993 => q__law_stir (l993.map fz)) fun e997 => R.bind (R.bind (R.bind (R.ok (.sh (nd t664 3))) fun e994 => R.bind (R.ok []) fun l995 => .ok (e994 :: l995)) fun l996 => ofOR ((g1 dLen) l996)) fun e998 => ofOR (gModI e997 e998)) fun e1000 => ofOR (gSub e999 e1000))) fun v1001 => O.bind (O.of (R.bind (R.bind (R.bind (R.ok (.sh x13)) fun e1004 => R.bind (R.bind (R.ok (.sh (.int 7))) fun e1002 => R.bind (R.ok (.sh x667)) fun e1003 => ofOR (gMulI e1002 e1003)) fun e1005 => ofOR (gAdd e1004 e1005)) fun e1011 => R.bind (R.bind (R.bind (R.bind (R.ok (.sh (nd t664 0))) fun e1006 => R.bind (R.ok []) fun l1007 => .ok (e1006 :: l1007)) fun l1008 => q__law_sheet_cells (l1008.map fz)) fun e1009 => R.bind (R.ok []) fun l1010 => .ok (e1009 :: l1010)) fun l1012 => .ok (e1011 :: l1012)) fun l1013 => q__law_order (l1013.map fz))) fun v1014 => O.bind (O.of (R.bind (R.ok (.sh (fz v1014))) fun e1048 => R.bind (R.ok none) fun i1049 => R.bind (R.bind (R.bind (R.bind (R.bind (R.bind (R.bind (R.ok (.sh (fz v1014))) fun e1015 => R.bind (R.ok []) fun l1016 => .ok (e1015 :: l1016)) fun l1017 => ofOR ((g1 dLen) l1017)) fun e1041 => R.bind (R.bind (R.ok (.sh (.int 0))) fun e1039 => R.bind (R.bind (R.bind (R.bind (R.bind (R.ok (.sh x13)) fun e1022 => R.bind (R.bind (R.bind (R.ok (.sh (.int 510))) fun e1018 => R.bind (R.ok (.sh x667)) fun e1019 => ofOR (gAdd e1018 e1019)) fun e1020 => R.bind (R.ok []) fun l1021 => .ok (e1020 :: l1021)) fun l1023 => .ok (e1022 :: l1023)) fun l1024 => q__law_stir (l1024.map fz)) fun e1030 => R.bind (R.bind (R.bind (R.bind (R.ok (.sh (fz v1014))) fun e1025 => R.bind (R.ok []) fun l1026 => .ok (e1025 :: l1026)) fun l1027 => ofOR ((g1 dLen) l1027)) fun e1028 => R.bind (R.ok (.sh (.int 1))) fun e1029 => ofOR (gAdd e1028 e1029)) fun e1031 => ofOR (gModI e1030 e1031)) fun e1037 => R.bind (R.bind (R.bind (R.bind (R.ok (.sh (fz v1014))) fun e1032 => R.bind (R.ok []) fun l1033 => .ok (e1032 :: l1033)) fun l1034 => ofOR ((g1 dLen) l1034)) fun e1035 => R.bind (R.ok []) fun l1036 => .ok (e1035 :: l1036)) fun l1038 => .ok (e1037 :: l1038)) fun l1040 => .ok (e1039 :: l1040)) fun l1042 => .ok (e1041 :: l1042)) fun l1043 => szR l1043.length (.lst l1043)) fun e1044 => R.bind (R.ok (.sh x667)) fun e1045 => ofOR (gSub e1044 e1045)) fun e1046 => R.bind (iR e1046) fun i1047 => .ok (some i1047)) fun i1050 => ofOR (gSl e1048 i1049 i1050))) fun v1051 => O.bind (O.of (R.bind (R.bind (R.ok (.sh (fz v1001))) fun e1054 => R.bind (R.bind (R.ok (.sh (fz v1051))) fun e1052 => R.bind (R.ok []) fun l1053 => .ok (e1052 :: l1053)) fun l1055 => .ok (e1054 :: l1055)) fun l1056 => q__law_answers (l1056.map fz))) fun v1057 => O.bind (O.of (R.bind (R.bind (R.ok (.sh (fz v1051))) fun e1058 => R.bind (R.ok []) fun l1059 => .ok (e1058 :: l1059)) fun l1060 => ofOR ((g1 dList) l1060))) fun v1061 => O.bind (O.bind (O.of (R.bind (R.bind (R.bind (R.bind (R.bind (R.ok (.sh (fz v1001))) fun e1064 => R.bind (R.bind (R.ok (.sh (fz v1061))) fun e1062 => R.bind (R.ok []) fun l1063 => .ok (e1062 :: l1063)) fun l1065 => .ok (e1064 :: l1065)) fun l1066 => q_answers_of (l1066.map fz)) fun e1067 => R.bind (R.ok (.sh (fz v1057))) fun e1068 => ofOR (gEq true e1067 e1068)) toBR) fun b1071 => if b1071 = true then .ok true else (R.bind (R.bind (R.ok (.sh (fz v1061))) fun e1069 => R.bind (R.ok (.sh (fz v1051))) fun e1070 => ofOR (gEq true e1069 e1070)) toBR))) fun b1075 => if b1075 = true then O.bind (O.of (R.ok (.sh (.bool false)))) fun o1074 => .ret o1074 else .next ()) fun s1073 => O.bind (O.of (R.bind (R.bind (R.ok (.sh (fz v1051))) fun e1078 => R.bind (R.bind (R.ok (.sh (fz v1057))) fun e1076 => R.bind (R.ok []) fun l1077 => .ok (e1076 :: l1077)) fun l1079 => .ok (e1078 :: l1079)) fun l1080 => ofOR ((gLZ) l1080))) fun v1081 => O.bind (O.bind (O.of (R.bind (R.bind (R.bind (R.bind (R.ok (.sh (fz v1001))) fun e1087 => R.bind (R.bind (R.bind (R.bind (R.ok (.sh (fz v1081))) fun e1082 => R.bind (R.ok []) fun l1083 => .ok (e1082 :: l1083)) fun l1084 => ofOR ((g1 dList) l1084)) fun e1085 => R.bind (R.ok []) fun l1086 => .ok (e1085 :: l1086)) fun l1088 => .ok (e1087 :: l1088)) fun l1089 => q_fits (l1089.map fz)) fun e1090 => R.bind (R.ok (.sh (.bool true))) fun e1091 => ofOR (gIsB true e1090 e1091)) toBR)) fun b1095 => if b1095 = true then O.bind (O.of (R.ok (.sh (.bool false)))) fun o1094 => .ret o1094 else .next ()) fun s1093 => O.bind (O.bind (O.of (R.bind (R.bind (R.ok (.sh (.int 0))) fun e1110 => R.bind (R.bind (R.bind (R.bind (R.ok (.sh (fz v1051))) fun e1096 => R.bind (R.ok []) fun l1097 => .ok (e1096 :: l1097)) fun l1098 => ofOR ((g1 dLen) l1098)) fun e1108 => R.bind (R.bind (R.bind (R.ok (.sh (.int 1))) fun e1104 => R.bind (R.bind (R.bind (R.bind (R.ok (.sh (fz v1051))) fun e1099 => R.bind (R.ok []) fun l1100 => .ok (e1099 :: l1100)) fun l1101 => ofOR ((g1 dLen) l1101)) fun e1102 => R.bind (R.ok (.sh (.int 6))) fun e1103 => ofOR (gDivI e1102 e1103)) fun e1105 => ofOR (gAdd e1104 e1105)) fun e1106 => R.bind (R.ok []) fun l1107 => .ok (e1106 :: l1107)) fun l1109 => .ok (e1108 :: l1109)) fun l1111 => .ok (e1110 :: l1111)) rng3R)) fun z1304 => forO z1304 (fun x1113 s1112 => q_law_2 v1001 v1051 v1057 v1081 x1113 s1112) ()) fun s1305 => .next ()
theorem okq_law_3 (x13 : PyData) (t664 : List PyData) (x667 : PyData) (s666 : Unit) : jS b_law_3 [.no, .ex (.sh x13), .ex (.sh (nd t664 0)), .no, .no, .ex (.sh (nd t664 3)), .ex (.sh x667), .no, .no, .no, .no, .no, .no, .no, .no, .no] (q_law_3 x13 t664 x667 s666) (fun (s666 : Unit) => [.no, .ex (.sh x13), .ex (.sh (nd t664 0)), .no, .no, .ex (.sh (nd t664 3)), .no, .no, .no, .no, .no, .no, .no, .no, .no, .no]) := by
  unfold q_law_3 b_law_3
  exact (js_seq (st1 := fun (v1001 : OV) => [.no, .ex (.sh x13), .ex (.sh (nd t664 0)), .no, .no, .ex (.sh (nd t664 3)), .ex (.sh x667), .ex v1001, .no, .no, .no, .no, .no, .no, .no, .no]) (js_set (j_bin (j_v rfl) (j_bin (j_call okq__law_stir (j_lcons (j_v rfl) (j_lcons (j_bin j_c (j_v rfl)) j_lnil))) (j_fn (j_lcons (j_v rfl) j_lnil))))) fun v1001 => (js_seq (st1 := fun (v1014 : OV) => [.no, .ex (.sh x13), .ex (.sh (nd t664 0)), .no, .no, .ex (.sh (nd t664 3)), .ex (.sh x667), .ex v1001, .ex v1014, .no, .no, .no, .no, .no, .no, .no]) (js_set (j_call okq__law_order (j_lcons (j_bin (j_v rfl) (j_bin j_c (j_v rfl))) (j_lcons (j_call okq__law_sheet_cells (j_lcons (j_v rfl) j_lnil)) j_lnil)))) fun v1014 => (js_seq (st1 := fun (v1051 : OV) => [.no, .ex (.sh x13), .ex (.sh (nd t664 0)), .no, .no, .ex (.sh (nd t664 3)), .ex (.sh x667), .ex v1001, .ex (.sh (fz v1014)), .ex v1051, .no, .no, .no, .no, .no, .no]) (js_set (j_sl (j_vx rfl) j_ono (j_osome (j_bin (j_lst (j_lcons (j_fn (j_lcons (j_v rfl) j_lnil)) (j_lcons j_c (j_lcons (j_bin (j_call okq__law_stir (j_lcons (j_v rfl) (j_lcons (j_bin j_c (j_v rfl)) j_lnil))) (j_bin (j_fn (j_lcons (j_v rfl) j_lnil)) j_c)) (j_lcons (j_fn (j_lcons (j_v rfl) j_lnil)) j_lnil))))) (j_v rfl))))) fun v1051 => (js_seq (st1 := fun (v1057 : OV) => [.no, .ex (.sh x13), .ex (.sh (nd t664 0)), .no, .no, .ex (.sh (nd t664 3)), .ex (.sh x667), .ex (.sh (fz v1001)), .ex (.sh (fz v1014)), .ex (.sh (fz v1051)), .ex v1057, .no, .no, .no, .no, .no]) (js_set (j_call okq__law_answers (j_lcons (j_vx rfl) (j_lcons (j_vx rfl) j_lnil)))) fun v1057 => (js_seq (st1 := fun (v1061 : OV) => [.no, .ex (.sh x13), .ex (.sh (nd t664 0)), .no, .no, .ex (.sh (nd t664 3)), .ex (.sh x667), .ex (.sh (fz v1001)), .ex (.sh (fz v1014)), .ex (.sh (fz v1051)), .ex v1057, .ex v1061, .no, .no, .no, .no]) (js_set (j_fn (j_lcons (j_v rfl) j_lnil))) fun v1061 => (js_seq (st1 := fun (s1073 : Unit) => [.no, .ex (.sh x13), .ex (.sh (nd t664 0)), .no, .no, .ex (.sh (nd t664 3)), .no, .ex (.sh (fz v1001)), .no, .ex (.sh (fz v1051)), .ex (.sh (fz v1057)), .no, .no, .no, .no, .no]) (js_if (j_bor (j_test (j_bin (j_call okq_answers_of (j_lcons (j_v rfl) (j_lcons (j_vx rfl) j_lnil))) (j_vx rfl))) (j_test (j_bin (j_v rfl) (j_v rfl))) .rf) (js_retc j_c) (js_nil (by exact (.eq (.eq (.eq (.eq (.eq (.eq (.no (.eq (.no (.eq (.eq (.no (.eq (.eq (.eq (.eq .nil))))))))))))))))))) fun s1073 => (js_seq (st1 := fun (v1081 : OV) => [.no, .ex (.sh x13), .ex (.sh (nd t664 0)), .no, .no, .ex (.sh (nd t664 3)), .no, .ex (.sh (fz v1001)), .no, .ex (.sh (fz v1051)), .ex (.sh (fz v1057)), .no, .ex v1081, .no, .no, .no]) (js_set (j_fn (j_lcons (j_v rfl) (j_lcons (j_v rfl) j_lnil)))) fun v1081 => (js_seq (st1 := fun (s1093 : Unit) => [.no, .ex (.sh x13), .ex (.sh (nd t664 0)), .no, .no, .ex (.sh (nd t664 3)), .no, .ex (.sh (fz v1001)), .no, .ex (.sh (fz v1051)), .ex (.sh (fz v1057)), .no, .ex (.sh (fz v1081)), .no, .no, .no]) (js_if (j_test (j_bin (j_call okq_fits (j_lcons (j_v rfl) (j_lcons (j_fn (j_lcons (j_vx rfl) j_lnil)) j_lnil))) j_c)) (js_retc j_c) (js_nil .rf)) fun s1093 => (js_seq (st1 := fun (s1305 : Unit) => [.no, .ex (.sh x13), .ex (.sh (nd t664 0)), .no, .no, .ex (.sh (nd t664 3)), .no, .ex (.sh (fz v1001)), .no, .ex (.sh (fz v1051)), .ex (.sh (fz v1057)), .no, .ex (.sh (fz v1081)), .no, .no, .no]) (js_forN (st := fun (s1112 : Unit) => [.no, .ex (.sh x13), .ex (.sh (nd t664 0)), .no, .no, .ex (.sh (nd t664 3)), .no, .ex (.sh (fz v1001)), .no, .ex (.sh (fz v1051)), .ex (.sh (fz v1057)), .no, .ex (.sh (fz v1081)), .no, .no, .no]) (j_irange3 (j_lcons j_c (j_lcons (j_fn (j_lcons (j_v rfl) j_lnil)) (j_lcons (j_bin j_c (j_bin (j_fn (j_lcons (j_v rfl) j_lnil)) j_c)) j_lnil)))) .rf (fun x1113 s1112 => okq_law_2 x13 t664 v1001 v1051 v1057 v1081 x1113 s1112) (fun _ => rfl)) fun s1305 => (js_nil (by exact (.eq (.eq (.eq (.eq (.eq (.eq (.eq (.no (.eq (.no (.no (.eq (.no (.eq (.eq (.eq .nil)))))))))))))))))))))))))))
def q_law_4  (x13 : PyData) (s12 : Unit) : O (Unit) :=
  O.bind (O.of (R.bind (R.bind (R.bind (R.ok (.sh x13)) fun e661 => R.bind (R.ok []) fun l662 => .ok (e661 :: l662)) fun l663 => q__law_played (l663.map fz)) fun o665 => unT 4 (fz o665))) fun t664 => O.bind (O.bind (O.of (R.bind (R.ok (.sh (.int 4))) rng1R)) fun z1306 => forO z1306 (fun x667 s666 => q_law_3 x13 t664 x667 s666) ()) fun s1307 => .next ()
theorem okq_law_4  (x13 : PyData) (s12 : Unit) : jS b_law_4 [.no, .ex (.sh x13), .no, .no, .no, .no, .no, .no, .no, .no, .no, .no, .no, .no, .no, .no] (q_law_4 x13 s12) (fun (s12 : Unit) => [.no, .no, .no, .no, .no, .no, .no, .no, .no, .no, .no, .no, .no, .no, .no, .no]) := by
  unfold q_law_4 b_law_4
  exact (js_seq (st1 := fun (t664 : List PyData) => [.no, .ex (.sh x13), .ex (.sh (nd t664 0)), .ex (.sh (nd t664 1)), .ex (.sh (nd t664 2)), .ex (.sh (nd t664 3)), .no, .no, .no, .no, .no, .no, .no, .no, .no, .no]) (js_asg (pt := fun _ _ => []) (pt' := fun t664 => [.no, .ex (.sh x13), .ex (.sh (nd t664 0)), .ex (.sh (nd t664 1)), .ex (.sh (nd t664 2)), .ex (.sh (nd t664 3)), .no, .no, .no, .no, .no, .no, .no, .no, .no, .no]) (j_call okq__law_played (j_lcons (j_v rfl) j_lnil)) fun _ => (jt_tup fun t664 => (jts_cons (by decide) (jts_cons (by decide) (jts_cons (by decide) (jts_cons (by decide) jts_nil)))))) fun t664 => (js_seq (st1 := fun (s1307 : Unit) => [.no, .ex (.sh x13), .ex (.sh (nd t664 0)), .no, .no, .ex (.sh (nd t664 3)), .no, .no, .no, .no, .no, .no, .no, .no, .no, .no]) (js_forN (st := fun (s666 : Unit) => [.no, .ex (.sh x13), .ex (.sh (nd t664 0)), .no, .no, .ex (.sh (nd t664 3)), .no, .no, .no, .no, .no, .no, .no, .no, .no, .no]) (j_irange1 j_c) (by exact (.eq (.eq (.eq (.no (.no (.eq (.eq (.eq (.eq (.eq (.eq (.eq (.eq (.eq (.eq (.eq .nil))))))))))))))))) (fun x667 s666 => okq_law_3 x13 t664 x667 s666) (fun _ => rfl)) fun s1307 => (js_nil (by exact (.eq (.no (.no (.eq (.eq (.no (.eq (.eq (.eq (.eq (.eq (.eq (.eq (.eq (.eq (.eq .nil))))))))))))))))))))
def q_law_0 (a1 : PyData) : O Unit :=
  O.bind (O.bind (O.of (R.bind (R.bind (R.bind (R.bind (R.ok (.sh (.int 0))) fun e2 => R.bind (R.ok []) fun l3 => .ok (e2 :: l3)) fun l4 => szR l4.length (.lst l4)) fun e10 => R.bind (R.bind (R.ok (.sh a1)) fun e7 => R.bind (R.ok none) fun i8 => R.bind (R.bind (R.ok (.sh (.int 12))) fun e5 => R.bind (iR e5) fun i6 => .ok (some i6)) fun i9 => ofOR (gSl e7 i8 i9)) fun e11 => ofOR (gAdd e10 e11)) itR)) fun z1308 => forO z1308 (fun x13 s12 => q_law_4 x13 s12) ()) fun s1309 => O.bind (O.of (R.ok (.sh (.bool true)))) fun o1310 => .ret o1310
theorem okq_law_0 (a1 : PyData) : jS b_law [.ex (.sh a1), .un, .un, .un, .un, .un, .un, .un, .un, .un, .un, .un, .un, .un, .un, .un] (q_law_0 a1) (fun _ : Unit => [.no, .no, .no, .no, .no, .no, .no, .no, .no, .no, .no, .no, .no, .no, .no, .no]) := by
  unfold q_law_0 b_law
  exact (js_seq (st1 := fun (s1309 : Unit) => [.no, .no, .no, .no, .no, .no, .no, .no, .no, .no, .no, .no, .no, .no, .no, .no]) (js_forN (st := fun (s12 : Unit) => [.no, .no, .no, .no, .no, .no, .no, .no, .no, .no, .no, .no, .no, .no, .no, .no]) (j_ival (j_bin (j_lst (j_lcons j_c j_lnil)) (j_sl (j_v rfl) j_ono (j_osome j_c)))) (by exact (.no (.eq (.eq (.eq (.eq (.eq (.eq (.eq (.eq (.eq (.eq (.eq (.eq (.eq (.eq (.eq .nil))))))))))))))))) (fun x13 s12 => okq_law_4 x13 s12) (fun _ => rfl)) fun s1309 => (js_retc j_c))
def q_law : List PyData → R OV
  | [a1] => O.fin (q_law_0 a1)
  | _ => .stk
theorem okq_law : jP m_law q_law := fun ds => match ds with
  | [a1] => j_def (qq := q_law_0 a1) (okq_law_0 a1)
  | [] => trivial
  | _ :: _ :: _ => trivial

end K07
namespace K07
open PySem PySem.Spec L2 Ev Com
open PyProof.Rows hiding St
local macro_rules | `(tactic| decreasing_trivial_pre_omega) => `(tactic| simp only [↓R.bind_ok, ↓R.bind_exc, ↓R.bind_stk, ↓O.bind_next, ↓O.bind_ret, ↓O.bind_exc, ↓O.bind_stk, R.bind_ok, R.bind_exc, R.bind_stk, O.bind_next, O.bind_ret, O.bind_exc, O.bind_stk, O.of_ok, O.of_exc, O.of_stk, O.fin_next, O.fin_ret, O.fin_exc, ofOR_some, ofPR_some, toBR_b, andR_b, orR_b, chR_b, iR_i, noX_ok, szR_lit, Option.isSome_some, Option.isSome_none, mutR_app, mutR_some, ownR_lst, ownR_dk, ownR_dt, itR_tup, itR_list, itR_lst, unT_l2, unT_l3, unT_l4, unT_l5, unT_l6, unT_l7, unL_l2, unL_l3, unL_l4, unL_l5, unL_l6, unL_l7, nd0, nd1, nd2, nd3, nd4, nd5, nd6, par2R_ok, gAdd_int, gII_ok, gI_int, gOrd_int, gEq_int, fz_sh, fz_lst, gNot_b, g1, g1_one, gi_int_none, gi_int_bool, gi_int_int, gi_int_str, gi_int_list, gi_int_tuple, gi_bool_none, gi_bool_bool, gi_bool_int, gi_bool_str, gi_bool_list, gi_bool_tuple, gi_str_none, gi_str_bool, gi_str_int, gi_str_str, gi_str_list, gi_str_tuple, gi_list_none, gi_list_bool, gi_list_int, gi_list_str, gi_list_list, gi_list_tuple, gi_tuple_none, gi_tuple_bool, gi_tuple_int, gi_tuple_str, gi_tuple_list, gi_tuple_tuple, gMax_two, mApp_ok, ownT_lst, dLen_list, dLen_tup, gSub_list, gSub_tup, gSub_lst, atI_l0, atI_l1, atI_l2, atI_l3, atI_l4, atI_l5, atI_l6, Option.map_some, dInt_b, dInt_i, dAbs_i, List.map_cons, List.map_nil, List.cons_append, List.nil_append, if_true, if_false, Bool.false_eq_true, decide_true, decide_false, Bool.false_xor, Bool.true_xor, decide_eq_true_eq, List.length_cons, List.length_nil, nl0, nl1, nl2, nl3, nl4, nl5, nl6, nl7, nl8, nl9, nl10, nl11, nl12, nl13, nl14, nl15, nl16, nl17, nl18, nl19, nl20, Nat.reduceAdd, Nat.reduceSub, Nat.reduceMul, Int.reduceLT, Int.reduceEq, Int.reduceSub, Int.reduceAdd, Int.reduceNeg, Int.reduceLE, Int.reduceMul, Int.reduceToNat, sz_le, sz_lt, Nat.reduceLeDiff, Nat.reduceLT, Bool.not_true, Bool.not_false, Bool.true_and, Bool.and_true, Bool.false_and, Bool.and_false, Bool.true_or, Bool.or_true, Bool.false_or, Bool.or_false, rite_and, rite_or, rb_and, rb_or, Bool.decide_eq_true, Bool.decide_and, Bool.decide_or, gAdd_LL, gAdd_Ll, gAdd_lL, gAdd_lst, gAdd_TT, map_sh_fz, map_fz_shL, List.length_map, gEq_bool, eq_self, forO_nil, forO_cons, lcR_nil, rng1R_ok, rng2R_ok])
local macro_rules | `(tactic| get_elem_tactic_trivial) => `(tactic| simp only [↓R.bind_ok, ↓R.bind_exc, ↓R.bind_stk, ↓O.bind_next, ↓O.bind_ret, ↓O.bind_exc, ↓O.bind_stk, R.bind_ok, R.bind_exc, R.bind_stk, O.bind_next, O.bind_ret, O.bind_exc, O.bind_stk, O.of_ok, O.of_exc, O.of_stk, O.fin_next, O.fin_ret, O.fin_exc, ofOR_some, ofPR_some, toBR_b, andR_b, orR_b, chR_b, iR_i, noX_ok, szR_lit, Option.isSome_some, Option.isSome_none, mutR_app, mutR_some, ownR_lst, ownR_dk, ownR_dt, itR_tup, itR_list, itR_lst, unT_l2, unT_l3, unT_l4, unT_l5, unT_l6, unT_l7, unL_l2, unL_l3, unL_l4, unL_l5, unL_l6, unL_l7, nd0, nd1, nd2, nd3, nd4, nd5, nd6, par2R_ok, gAdd_int, gII_ok, gI_int, gOrd_int, gEq_int, fz_sh, fz_lst, gNot_b, g1, g1_one, gi_int_none, gi_int_bool, gi_int_int, gi_int_str, gi_int_list, gi_int_tuple, gi_bool_none, gi_bool_bool, gi_bool_int, gi_bool_str, gi_bool_list, gi_bool_tuple, gi_str_none, gi_str_bool, gi_str_int, gi_str_str, gi_str_list, gi_str_tuple, gi_list_none, gi_list_bool, gi_list_int, gi_list_str, gi_list_list, gi_list_tuple, gi_tuple_none, gi_tuple_bool, gi_tuple_int, gi_tuple_str, gi_tuple_list, gi_tuple_tuple, gMax_two, mApp_ok, ownT_lst, dLen_list, dLen_tup, gSub_list, gSub_tup, gSub_lst, atI_l0, atI_l1, atI_l2, atI_l3, atI_l4, atI_l5, atI_l6, Option.map_some, dInt_b, dInt_i, dAbs_i, List.map_cons, List.map_nil, List.cons_append, List.nil_append, if_true, if_false, Bool.false_eq_true, decide_true, decide_false, Bool.false_xor, Bool.true_xor, decide_eq_true_eq, List.length_cons, List.length_nil, nl0, nl1, nl2, nl3, nl4, nl5, nl6, nl7, nl8, nl9, nl10, nl11, nl12, nl13, nl14, nl15, nl16, nl17, nl18, nl19, nl20, Nat.reduceAdd, Nat.reduceSub, Nat.reduceMul, Int.reduceLT, Int.reduceEq, Int.reduceSub, Int.reduceAdd, Int.reduceNeg, Int.reduceLE, Int.reduceMul, Int.reduceToNat, sz_le, sz_lt, Nat.reduceLeDiff, Nat.reduceLT, Bool.not_true, Bool.not_false, Bool.true_and, Bool.and_true, Bool.false_and, Bool.and_false, Bool.true_or, Bool.or_true, Bool.false_or, Bool.or_false, rite_and, rite_or, rb_and, rb_or, Bool.decide_eq_true, Bool.decide_and, Bool.decide_or, gAdd_LL, gAdd_Ll, gAdd_lL, gAdd_lst, gAdd_TT, map_sh_fz, map_fz_shL, List.length_map, gEq_bool, eq_self, forO_nil, forO_cons, lcR_nil, rng1R_ok, rng2R_ok, *])
theorem word_turn {R C : Nat} {h : Hid} (g : GoodH R C h) {cs : List Cell} (hc : ∀ q ∈ cs, InB q) (hl : cs.length ≤ 100) {k : Nat} (hk : k < cs.length) (w : Ans) {v1 v2 v3 v4 : OV} (e1 : fz v1 = hD h) (e2 : fz v2 = .list (cs.map cD)) (e3 : fz v3 = .list ((ansL h [] cs).map Ans.d)) (e4 : fz v4 = .list ((cs.zip (ansL h [] cs)).map rD)) :
    q_law_1 v1 v2 v3 v4 (.int (k : Nat)) w.d () = .next () := by
  have la := ansL_len h cs []
  obtain ⟨c, hcs⟩ : ∃ c, cs[k]? = some c := ⟨_, List.getElem?_eq_getElem hk⟩
  obtain ⟨a, has⟩ : ∃ a, (ansL h [] cs)[k]? = some a := ⟨_, List.getElem?_eq_getElem (by omega)⟩
  have fo := fit_other (w := w) hcs has
  have lz : (cs.zip (ansL h [] cs)).length = cs.length := by rw [List.length_zip]; omega
  have a1 : atI (cs.map cD) (k : Nat) = some (cD c) := atI_nat (by rw [List.getElem?_map, hcs]; rfl)
  have a2 : atI ((ansL h [] cs).map Ans.d) (k : Nat) = some a.d := atI_nat (by rw [List.getElem?_map, has]; rfl)
  generalize hr : cs.zip (ansL h [] cs) = r at *
  have hr1 : ∀ q ∈ r, InB q.1 := fun q hq => by
    rw [← hr] at hq
    exact hc _ (List.of_mem_zip hq).1
  have f := g.fits (r := r.take k ++ [(c, w)] ++ r.drop (k + 1)) (fun q hq => by
    rcases List.mem_append.mp hq with hq | hq
    · rcases List.mem_append.mp hq with hq | hq
      · exact hr1 q (List.mem_of_mem_take hq)
      · rw [List.mem_singleton.mp hq]
        exact hc c (List.mem_of_getElem? hcs)
    · exact hr1 q (List.mem_of_mem_drop hq)) (by simp; omega)
  rw [fo] at f
  have s1 := sl_to (ds := r.map rD) (k := k)
  have s2 := sl_from (ds := r.map rD) (k := k + 1)
  rw [Int.natCast_add] at s2
  have s2 : gSl (.sh (.list (r.map rD))) (some ((k : Nat) + 1)) none = some (.lst (((r.map rD).drop (k + 1)).map .sh)) := s2
  have t1 : ((r.map rD).take k).map OV.sh = (r.take k).map fun q => .sh (rD q) := by rw [← List.map_take, List.map_map]; rfl
  have t2 : ((r.map rD).drop (k + 1)).map OV.sh = (r.drop (k + 1)).map fun q => .sh (rD q) := by rw [← List.map_drop, List.map_map]; rfl
  rw [t1] at s1
  rw [t2] at s2
  have ga : ∀ xs ys : Rec, xs.length + ys.length ≤ 1000 → gAdd (.lst (xs.map fun q => .sh (rD q))) (.lst (ys.map fun q => .sh (rD q))) = some (.lst ((xs ++ ys).map fun q => .sh (rD q))) := fun xs ys hl => by
    rw [gAdd_lst (by rw [List.length_map, List.length_map, sizeLine_eq]; omega)]
    congr 2
    simp [fz_sh, Function.comp_def]
  have g1 := ga (r.take k) [(c, w)] (by simp; omega)
  have g2 := ga (r.take k ++ [(c, w)]) (r.drop (k + 1)) (by simp; omega)
  have m1 := fun xs : Rec => fz_shL (e := rD) (xs := xs)
  have ew := EqE.ans.eq (by decide) (neg := false) (a := .sh w.d) (b := .sh a.d) fz_sh fz_sh
  rw [Bool.false_xor] at ew
  have x0 : rD (c, w) = .tuple [cD c, w.d] := rfl
  rw [List.map_cons, List.map_nil, x0] at g1
  have eb : ∀ b : Bool, gEq true (.sh (.bool b)) (.sh (.bool b)) = some (.sh (.bool false)) := fun b => by
    rw [EqE.bool.eq (by decide) fz_sh fz_sh]; simp
  unfold shL at m1
  generalize r.take k ++ [(c, w)] ++ r.drop (k + 1) = r2 at *
  generalize r.take k ++ [(c, w)] = r1 at *
  generalize decide (w = a) = b at *
  clear hcs has fo lz hr hr1 hc hl hk g ga t1 t2 la x0
  unfold q_law_1
  get_elem_tactic_trivial
theorem at_turn {R C : Nat} {h : Hid} (g : GoodH R C h) {cs : List Cell} (hc : ∀ q ∈ cs, InB q) (hl : cs.length ≤ 100) {k : Nat} (hk : k < cs.length) {v1 v2 v3 v4 : OV} (e1 : fz v1 = hD h) (e2 : fz v2 = .list (cs.map cD)) (e3 : fz v3 = .list ((ansL h [] cs).map Ans.d)) (e4 : fz v4 = .list ((cs.zip (ansL h [] cs)).map rD)) :
    q_law_2 v1 v2 v3 v4 (.int (k : Nat)) () = .next () := by
  have w1 := word_turn g hc hl hk .water e1 e2 e3 e4
  have w2 := word_turn g hc hl hk .hit e1 e2 e3 e4
  have w3 := word_turn g hc hl hk .sunk e1 e2 e3 e4
  simp only [Ans.d, Ans.s] at w1 w2 w3
  clear g hc hl hk e1 e2 e3 e4
  unfold q_law_2
  get_elem_tactic_trivial
theorem rng3 {n m : Nat} (hm : 0 < m) (hm2 : m ≤ 1000) (hn : n ≤ 1000) : ∃ ks : List Nat, (∀ k ∈ ks, k < n) ∧ rng3R [.sh (.int 0), .sh (.int (n : Nat)), .sh (.int (m : Nat))] = .ok (ks.map nD) := by
  have rs : Builtin.Range.rangeSize 0 (n : Nat) (m : Nat) = if 0 < n then (((n - 1) / m + 1 : Nat) : Int) else 0 := by
    unfold Builtin.Range.rangeSize
    rw [if_pos (by omega)]
    by_cases h : 0 < n
    · rw [if_pos (by omega), if_pos h]
      have : ((n : Nat) : Int) - 0 - 1 = ((n - 1 : Nat) : Int) := by omega
      rw [this, ← Int.natCast_ediv]; rfl
    · rw [if_neg (by omega), if_neg h]
  have ok : stepOk 0 (n : Nat) (m : Nat) = true := by
    unfold stepOk Builtin.Range.small
    have q : ∃ q : Nat, q ≤ 1000 ∧ (if 0 < n then (((n - 1) / m + 1 : Nat) : Int) else 0) = (q : Int) := by
      by_cases h : 0 < n
      · refine ⟨(n - 1) / m + 1, ?_, if_pos h⟩
        have := Nat.div_le_self (n - 1) m
        omega
      · exact ⟨0, by decide, if_neg h⟩
    obtain ⟨q, hq, e⟩ := q
    have fl : ∀ i : Int, 0 ≤ i → i ≤ 3000 → Builtin.Range.rangeFitsLong i = true := fun i h1 h2 => by
      unfold Builtin.Range.rangeFitsLong
      simp
      omega
    rw [rs, e]
    simp only [Bool.and_eq_true, decide_eq_true_eq, Bool.or_eq_true]
    refine ⟨⟨⟨by omega, by omega⟩, ⟨⟨⟨fl _ (by decide) (by decide), fl _ (by omega) (by omega)⟩, fl _ (by omega) (by omega)⟩, fl _ (by omega) (by omega)⟩, .inr ?_⟩, by omega⟩
    rw [if_pos (by omega)]
    exact fl _ (by omega) (by omega)
  unfold rng3R
  simp only [ok, if_true]
  unfold stepD
  by_cases h : 0 < n
  · refine ⟨(List.range ((n - 1) / m + 1)).map (· * m), fun k hk => ?_, ?_⟩
    · obtain ⟨i, hi, rfl⟩ := List.mem_map.mp hk
      rw [List.mem_range] at hi
      have h1 : i * m ≤ (n - 1) / m * m := Nat.mul_le_mul_right _ (by omega)
      have h2 := Nat.div_mul_le_self (n - 1) m
      show i * m < n
      omega
    · rw [rs, if_pos h, Int.toNat_natCast, List.map_map]
      congr 1
      apply List.map_congr_left
      intro i _
      show PyData.int _ = .int _
      congr 1
      rw [Int.zero_add]
      exact (Int.natCast_mul i m).symm
  · refine ⟨[], by simp, ?_⟩
    rw [rs, if_neg h]
    rfl
theorem k_turn {cell : Int} {R C : Nat} {fleet : List Nat} {u : Rule} (g : Game R C fleet) (ne : allH R C u fleet ≠ []) {t : List PyData} (e0 : nd t 0 = cD (R, C)) (e3 : nd t 3 = .list ((allH R C u fleet).map hD)) {k : Nat} (hk : k < 4) :
    q_law_3 (.int cell) t (.int (k : Nat)) () = .next () := by
  have s1 := stir_q (cell := cell) (k := 500 + (k : Nat)) (by omega) (by omega)
  have s2 := stir_q (cell := cell) (k := 510 + (k : Nat)) (by omega) (by omega)
  have pS : 0 < (allH R C u fleet).length := List.length_pos_iff.mpr ne
  obtain ⟨d1, hd1, m1⟩ := mod_at (xs := (allH R C u fleet).map hD) (i := stir cell (500 + (k : Nat))) (List.length_map ..) pS
  obtain ⟨h, hh, rfl⟩ := List.mem_map.mp hd1
  have gh := g.good hh
  have sq := law_sheet_q (R := R) (C := C) (by have := g.r8; omega) (by have := g.c8; omega)
  have sl := sheetC_len R C
  have sm : R * C ≤ 25 := Nat.mul_le_mul g.r8 g.c8
  obtain ⟨ys, hp, oq⟩ := order_q (e := cD) (cell + 7 * (k : Nat)) (sheetC R C) (by omega)
  have hy : ys.length = R * C := by rw [hp.length_eq, sl]
  have yn : ys.Nodup := hp.nodup_iff.mpr (sheetC_nodup R C)
  have yi : ∀ q ∈ ys, InB q := fun q hq => on_inB (by have := g.r8; omega) (by have := g.c8; omega) (mem_sheetC.mp (hp.mem_iff.mp hq))
  have n1 := Int.emod_nonneg (stir cell (510 + (k : Nat))) (show ((ys.length : Nat) : Int) + 1 ≠ 0 by omega)
  have n2 := Int.emod_lt_of_pos (stir cell (510 + (k : Nat))) (show 0 < ((ys.length : Nat) : Int) + 1 by omega)
  obtain ⟨i, hi⟩ := nat_of n1
  obtain ⟨n, hn⟩ : ∃ n : Nat, atI [PyData.int (ys.length : Nat), .int 0, .int (i : Nat), .int (ys.length : Nat)] (k : Nat) = some (.int (n : Nat)) := by
    have k4 : k = 0 ∨ k = 1 ∨ k = 2 ∨ k = 3 := by omega
    rcases k4 with rfl | rfl | rfl | rfl
    · exact ⟨ys.length, rfl⟩
    · exact ⟨0, rfl⟩
    · exact ⟨i, rfl⟩
    · exact ⟨ys.length, rfl⟩
  have cn := yn.sublist (List.take_sublist n ys)
  have ci : ∀ q ∈ ys.take n, InB q := fun q hq => yi q (List.mem_of_mem_take hq)
  have cl : (ys.take n).length ≤ 25 := by rw [List.length_take]; omega
  have slt := sl_to (ds := ys.map cD) (k := n)
  have t1 : ((ys.map cD).take n).map OV.sh = (ys.take n).map fun q => .sh (cD q) := by rw [← List.map_take, List.map_map]; rfl
  rw [t1] at slt
  generalize ys.take n = cs at *
  have la := gh.law cn (by omega)
  have pa := gh.answers ci (by omega)
  have al := ansL_len h cs []
  have fd := fit_due (h := h) (cs := cs)
  have lz : (cs.zip (ansL h [] cs)).length = cs.length := by rw [List.length_zip]; omega
  have pf := gh.fits (r := cs.zip (ansL h [] cs)) (fun q hq => ci _ (List.of_mem_zip hq).1) (by omega)
  rw [fd] at pf
  have at1 := fun (j : Nat) (hj : j < cs.length) (v1 v2 v3 v4 : OV) e1 e2 e3 e4 => at_turn gh ci (by omega) hj (v1 := v1) (v2 := v2) (v3 := v3) (v4 := v4) e1 e2 e3 e4
  have pz := pairD_zip cs (ansL h [] cs)
  have ea := EqE.ans.eqL (by decide) (neg := true) (xs := ansL h [] cs) (ys := ansL h [] cs)
  have ec := EqE.cell.eqL (by decide) (neg := true) (xs := cs) (ys := cs)
  obtain ⟨ks, hks, rg⟩ := rng3 (n := cs.length) (m := 1 + cs.length / 6) (by omega) (by omega) (by omega)
  have gz : gLZ [.sh (.list (cs.map cD)), .sh (.list ((ansL h [] cs).map Ans.d))] = some (.lst ((cs.zip (ansL h [] cs)).map fun q => .sh (rD q))) := by
    unfold gLZ
    simp only [fz_sh, pz, List.map_map]
    rfl
  have mz : fz (.lst ((cs.zip (ansL h [] cs)).map fun q => .sh (rD q))) = .list ((cs.zip (ansL h [] cs)).map rD) := fz_shL
  have mk : gMulI (.sh (.int 7)) (.sh (.int (k : Nat))) = some (.sh (.int (7 * (k : Nat)))) := gII_ok (mulOk_l (by decide))
  have lp : ∀ v1 v2 v3 v4 : OV, fz v1 = hD h → fz v2 = .list (cs.map cD) → fz v3 = .list ((ansL h [] cs).map Ans.d) → fz v4 = .list ((cs.zip (ansL h [] cs)).map rD) → forO (ks.map nD) (fun x s => q_law_2 v1 v2 v3 v4 x s) () = .next () := fun v1 v2 v3 v4 e1 e2 e3 e4 =>
    forO_same fun d hd => by
      obtain ⟨j, hj, rfl⟩ := List.mem_map.mp hd
      exact at1 j (hks j hj) v1 v2 v3 v4 e1 e2 e3 e4
  have lp := lp (.sh (hD h)) (.lst (cs.map fun q => .sh (cD q))) (shL Ans.d (ansL h [] cs)) _ fz_sh fz_shL fz_shL mz
  have mc : fz (.lst (cs.map fun q => .sh (cD q))) = .list (cs.map cD) := fz_shL
  have ma : fz (shL Ans.d (ansL h [] cs)) = .list ((ansL h [] cs).map Ans.d) := fz_shL
  have my : fz (shL cD ys) = .list (ys.map cD) := fz_shL
  have ms : fz (shL cD (sheetC R C)) = .list ((sheetC R C).map cD) := fz_shL
  have qS : (0 : Int) < ((allH R C u fleet).length : Nat) := by omega
  have qY : (0 : Int) < ((ys.length : Nat) : Int) + 1 := by omega
  have rg2 : ((1 : Int) + ((cs.length : Nat) : Int) / 6) = ((1 + cs.length / 6 : Nat) : Int) := by omega
  have ml1 := map_fz_shL (e := cD) (xs := cs)
  have dl : ∀ {α : Type} (e : α → PyData) (l : List α), dList (.list (l.map e)) = some (.lst (l.map fun q => .sh (e q))) := fun e l => by
    rw [dList_l, List.map_map]; rfl
  have dl1 := dl cD cs
  have dl2 := dl rD (cs.zip (ansL h [] cs))
  have ea : gEq true (shL Ans.d (ansL h [] cs)) (.sh (.list ((ansL h [] cs).map Ans.d))) = some (.sh (.bool false)) := by
    rw [EqE.ans.list.eq (by decide) fz_shL fz_sh]; simp
  have ec : gEq true (.sh (.list (cs.map cD))) (.sh (.list (cs.map cD))) = some (.sh (.bool false)) := by
    rw [EqE.cell.list.eq (by decide) fz_sh fz_sh]; simp
  have gd : gDivI (.sh (.int (cs.length : Nat))) (.sh (.int 6)) = some (.sh (.int (((cs.length : Nat) : Int) / 6))) := gII_ok (by show (decide ((0 : Int) < 6) && decide ((6 : Int).natAbs.log2 < 9000)) = true; decide)
  have ib : gIsB true (.sh (.bool true)) (.sh (.bool true)) = some (.sh (.bool false)) := by unfold gIsB blV; rfl
  clear dl
  generalize hA : (cs.zip (ansL h [] cs)) = Z at *
  generalize ansL h [] cs = A at *
  generalize allH R C u fleet = H at *
  generalize sheetC R C = SC at *
  clear g ne hk pS hd1 hh gh sl sm hp hy yn yi n1 n2 cn ci cl al fd lz at1 pz hA hks
  unfold q_law_3
  get_elem_tactic_trivial
theorem cell_turn (cell : Int) : q_law_4 (.int cell) () = .next () := by
  obtain ⟨R, C, fleet, u, g, ne, hq⟩ := played_q cell
  have t := fun (t : List PyData) e0 e3 (k : Nat) (hk : k < 4) => k_turn (cell := cell) g ne (t := t) e0 e3 hk
  have t := t [cD (R, C), fD fleet, u.d, .list ((allH R C u fleet).map hD)] rfl rfl
  have lp : forO ((List.range 4).map fun z => .int ((z : Nat) : Int)) (fun x s => q_law_3 (.int cell) [cD (R, C), fD fleet, u.d, .list ((allH R C u fleet).map hD)] x s) () = .next () := forO_same fun d hd => by
    obtain ⟨k, hk, rfl⟩ := List.mem_map.mp hd
    exact t k (List.mem_range.mp hk)
  have rg := rng1R_n (k := 4) (by decide)
  have r4 : ((4 : Nat) : Int) = 4 := rfl
  rw [r4] at rg
  clear t g ne
  unfold q_law_4
  get_elem_tactic_trivial
  skip
theorem law_true (ns : List Int) (h : scOk ns) : m_law [.list (ns.map .int)] = .ok (.sh (.bool true)) := by
  obtain ⟨ms, hi, ha, hl⟩ := script_it ns 12 h.1
  have lp := each_turn (f := fun x s => q_law_4 x s) cell_turn ms
  have z := cell_turn 0
  refine true_of okq_law ?_
  unfold q_law q_law_0
  get_elem_tactic_trivial
end K07
open PySem PySem.W PySem.Calls PyProof.Rows
set_option maxRecDepth 100000
set_option maxHeartbeats 0 in
theorem PySem.Challenge.cw_fleethide_k07_answers_by_walk_holds : PySem.Challenge.rw_fleethide_k07_answers_by_walk.Holds := by
  w_on; o_law
  refine HandSHeadRun.head_any (r := K07.RW) (q := view K07.RW.prog [22]) (H := K07.hkL) (ob := K07.obL) (M := 1780) (loose := K07.looseL) (d := HandSHeadRun.topDef K07.RW.prog 22) (kwd := []) K07.obL_eq
    (by kernel_rfl) (fun s => by kernel_rfl) K07.runL (by kernel_rfl) (by kernel_rfl) (by kernel_rfl) (by rfl) (by first | assumption | decide +kernel) (by decide +kernel) ⟨rfl, rfl, rfl, rfl, rfl, by decide +kernel⟩ ?hw ?hc
  case hw => w_witness2
  case hc =>
    refine Ev.walkE (l := PySem.Challenge.rw_fleethide_k07_answers_by_walk) (k := 5) ⟨rfl, by decide, by decide⟩ rfl (by kernel_rfl) ?F
    intro w mg fa h Y hmg0 G
    obtain ⟨K, KX, c⟩ := Y
    have e0 : (HandSHeadRun.topDef K07.RW.prog 22).name = ("law" : PySem.Str) := by kernel_rfl
    rw [e0] at hmg0
    have T := K07.topL KX G c
    obtain ⟨fd, F⟩ := c.t.d.def_ 18 (d := K07.dd_law) rfl
    have ef := hmg0.symm.trans (He.glo_ok KX G (c.t.d.fact 18 (f := .glo "law") rfl))
    cases ef
    exact ⟨K, fd, KX, fun s u => L2.FunD.bindsA (ps := ["script"]) F (fun _ _ _ _ _ _ us hl => match us, hl with | [_], _ => rfl) s [u] rfl, fun base _ _ => Ev.law_of K07.law_true (K07.ok_law T F)⟩


