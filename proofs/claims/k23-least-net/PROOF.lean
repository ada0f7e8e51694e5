import PyProof.Rows.All
import Wide.All
import OpenK.AllK
import Wide.FinOn
import HandS.ForMost
import HandS.ForExc
import HandS.Walk
import HandS.TupAny
import HandS.Deep
import HandS.IsInst
import HandS.Style
import HandS.Wide
import KE.DataCmp
import KE.SortData
import HandS.CallSlots
import HandS.More
import HandS.SortKw
import KE.DataMinKey
import HandS.Ends
import HandS.EndBits
import HandS.Defaults
import HandS.Head0
import HandS.Head1
import HandS.Head2
import HandS.HeadEnd
import HandS.HeadHook1
import HandS.HeadHook2
import HandS.HeadHook3
import HandS.HeadHook4
import KE.KStateDown
import KE.IntBitsLaws
import PySem.Challenge.RW_fleethide_k23_how_many_a_net_has
set_option Elab.async false
set_option linter.all false
set_option maxRecDepth 100000
namespace Ev
open PySem PySem.Spec L2
open PyProof.Rows hiding St

/-! ### frozen parts -/
/-- what stands frozen in Hf stands in H (a dict may be locked) -/
def Ext (Hf H : Hp) : Prop := ∀ a o, Hf a = some o → H a = some o ∨ (((∃ kvs, o = .dK kvs) ∨ ∃ kvs, o = .dT kvs) ∧ ∃ ob, H a = some (.frz ob o))
theorem Ext.of {Hf H : Hp} (s : Same Hf H) : Ext Hf H := fun a o h => .inl (s a o h)
theorem Ext.refl (H : Hp) : Ext H H := fun _ _ h => .inl h
theorem Same.ext {A B C : Hp} (s : Same A B) (e : Ext B C) : Ext A C := fun a o h => e a o (s a o h)
theorem Ext.none {Hf H : Hp} (e : Ext Hf H) {a : Addr} (h : H a = none) : Hf a = none := by
  cases q : Hf a with
  | none => rfl
  | some o =>
    rcases e a o q with z | ⟨_, ob, z⟩ <;> rw [h] at z <;> cases z
theorem Ext.rd {Hf H : Hp} (e : Ext Hf H) {a : Addr} {u : HO} (h : Rd Hf a u) : Rd H a u := by
  rcases h with h | ⟨o, h⟩
  · rcases e a _ h with z | ⟨_, ob, z⟩
    · exact .inl z
    · exact .inr ⟨ob, z⟩
  · rcases e a _ h with z | ⟨(⟨kvs, q⟩ | ⟨kvs, q⟩), ob, z⟩
    · exact .inr ⟨o, z⟩
    · cases q
    · cases q
theorem Ext.tup {Hf H : Hp} (e : Ext Hf H) {a : Addr} {xs : List V} (h : Hf a = some (.tup xs)) : H a = some (.tup xs) := by
  rcases e a _ h with z | ⟨(⟨kvs, q⟩ | ⟨kvs, q⟩), ob, z⟩
  · exact z
  · cases q
  · cases q
theorem Ext.sqT {K : PySem.W.Frag} {Hf H : Hp} (e : Ext Hf H) {a : Addr} {xs : List V} (h : SqT K Hf a xs) : SqT K H a xs := by
  rcases h with h | h
  · exact .inl (e.rd h)
  · exact .inr h

theorem Ext.sqL {K : PySem.W.Frag} {Hf H : Hp} (e : Ext Hf H) {a : Addr} {xs : List V} (h : SqL K Hf a xs) : SqL K H a xs := by
  rcases h with h | h
  · exact .inl (e.rd h)
  · exact .inr h

def kD : Key → PyData
  | .inl i => .int i
  | .inr x => .str x
def ktD (ks : List Key) : PyData := .tuple (ks.map kD)

mutual
/-- v is the datum d, as it is read in H -/
inductive Rp (K : PySem.W.Frag) (H : Hp) : V → PyData → Prop
  | non : Rp K H .non .none
  | bl (b : Bool) : Rp K H (.bl b) (.bool b)
  | int (i : Int) : Rp K H (.int i) (.int i)
  | str (x : Str) : Rp K H (.str x) (.str x)
  | lst {a : Addr} {xs : List V} {ds : List PyData} : SqL K H a xs → RpAll K H xs ds → Rp K H (.ref a) (.list ds)
  | tup {a : Addr} {xs : List V} {ds : List PyData} : H a = some (.tup xs) → RpAll K H xs ds → Rp K H (.ref a) (.tuple ds)
  | tupK {a : Addr} {xs : List Str} : SqT K H a (xs.map V.str) → xs ≠ [] → Rp K H (.ref a) (.tuple (xs.map PyData.str))
  | dk {a : Addr} {kvs : List (Key × V)} {ds : List PyData} : Rd H a (.dK kvs) → RpAll K H (kvs.map (·.2)) ds → Rp K H (.ref a) (.dict ((kvs.map fun p => kD p.1).zip ds))
  | dt {a : Addr} {kvs : List (List Key × V)} {ds : List PyData} : Rd H a (.dT kvs) → RpAll K H (kvs.map (·.2)) ds → Rp K H (.ref a) (.dict ((.none, .none) :: (kvs.map fun p => ktD p.1).zip ds))
inductive RpAll (K : PySem.W.Frag) (H : Hp) : List V → List PyData → Prop
  | nil : RpAll K H [] []
  | cons {v : V} {vs : List V} {d : PyData} {ds : List PyData} : Rp K H v d → RpAll K H vs ds → RpAll K H (v :: vs) (d :: ds)
end

section
variable {K : PySem.W.Frag} {H H' : Hp}
mutual
theorem Rp.mono (e : Ext H H') : ∀ {v : V} {d : PyData}, Rp K H v d → Rp K H' v d
  | _, _, .non => .non
  | _, _, .bl b => .bl b
  | _, _, .int i => .int i
  | _, _, .str x => .str x
  | _, _, .lst h r => .lst (e.sqL h) (RpAll.mono e r)
  | _, _, .tup h r => .tup (e.tup h) (RpAll.mono e r)
  | _, _, .tupK h n => .tupK (e.sqT h) n
  | _, _, .dk h r => .dk (e.rd h) (RpAll.mono e r)
  | _, _, .dt h r => .dt (e.rd h) (RpAll.mono e r)
theorem RpAll.mono (e : Ext H H') : ∀ {vs : List V} {ds : List PyData}, RpAll K H vs ds → RpAll K H' vs ds
  | _, _, .nil => .nil
  | _, _, .cons h r => .cons (Rp.mono e h) (RpAll.mono e r)
end
theorem RpAll.len : ∀ {vs : List V} {ds : List PyData}, RpAll K H vs ds → vs.length = ds.length
  | _, _, .nil => rfl
  | _, _, .cons _ r => congrArg (· + 1) r.len
theorem RpAll.get : ∀ {vs : List V} {ds : List PyData} {i : Nat} {d : PyData}, RpAll K H vs ds → ds[i]? = some d → ∃ v, vs[i]? = some v ∧ Rp K H v d
  | _, _, _, _, .nil, e => by simp at e
  | _, _, 0, _, .cons h _, e => by simp at e; subst e; exact ⟨_, rfl, h⟩
  | _, _, i + 1, d, .cons _ r, e => by
    obtain ⟨v, h1, h2⟩ := RpAll.get (i := i) (d := d) r (by simpa using e)
    exact ⟨v, by simpa using h1, h2⟩
theorem RpAll.get' : ∀ {vs : List V} {ds : List PyData} {i : Nat} {v : V}, RpAll K H vs ds → vs[i]? = some v → ∃ d, ds[i]? = some d ∧ Rp K H v d
  | _, _, _, _, .nil, e => by simp at e
  | _, _, 0, _, .cons h _, e => by simp at e; subst e; exact ⟨_, rfl, h⟩
  | _, _, i + 1, d, .cons _ r, e => by
    obtain ⟨v, h1, h2⟩ := RpAll.get' (i := i) r (by simpa using e)
    exact ⟨v, by simpa using h1, h2⟩
theorem RpAll.append : ∀ {vs ws : List V} {ds es : List PyData}, RpAll K H vs ds → RpAll K H ws es → RpAll K H (vs ++ ws) (ds ++ es)
  | _, _, _, _, .nil, s => s
  | _, _, _, _, .cons h r, s => .cons h (r.append s)
theorem RpAll.take : ∀ {vs : List V} {ds : List PyData} (n : Nat), RpAll K H vs ds → RpAll K H (vs.take n) (ds.take n)
  | _, _, 0, _ => .nil
  | _, _, _ + 1, .nil => .nil
  | _, _, n + 1, .cons h r => .cons h (r.take n)
theorem RpAll.drop : ∀ {vs : List V} {ds : List PyData} (n : Nat), RpAll K H vs ds → RpAll K H (vs.drop n) (ds.drop n)
  | _, _, 0, r => r
  | _, _, _ + 1, .nil => .nil
  | _, _, n + 1, .cons _ r => r.drop n
theorem RpAll.snoc {vs : List V} {ds : List PyData} {v : V} {d : PyData} (r : RpAll K H vs ds) (h : Rp K H v d) : RpAll K H (vs ++ [v]) (ds ++ [d]) := r.append (.cons h .nil)
theorem RpAll.reverse : ∀ {vs : List V} {ds : List PyData}, RpAll K H vs ds → RpAll K H vs.reverse ds.reverse
  | _, _, .nil => .nil
  | _, _, .cons h r => by rw [List.reverse_cons, List.reverse_cons]; exact r.reverse.snoc h
theorem RpAll.strs : ∀ (xs : List Str), RpAll K H (xs.map V.str) (xs.map PyData.str)
  | [] => .nil
  | x :: xs => .cons (.str x) (RpAll.strs xs)
theorem RpAll.ints : ∀ (xs : List Int), RpAll K H (xs.map V.int) (xs.map PyData.int)
  | [] => .nil
  | x :: xs => .cons (.int x) (RpAll.ints xs)
/-- a tuple as it is read -/
theorem Rp.sqT {v : V} {ds : List PyData} (h : Rp K H v (.tuple ds)) : ∃ a xs, v = .ref a ∧ SqT K H a xs ∧ RpAll K H xs ds := by
  cases h with
  | tup h r => exact ⟨_, _, rfl, SqT.of h, r⟩
  | tupK h n => exact ⟨_, _, rfl, h, RpAll.strs _⟩
theorem Rp.sqL {v : V} {ds : List PyData} (h : Rp K H v (.list ds)) : ∃ a xs, v = .ref a ∧ SqL K H a xs ∧ RpAll K H xs ds := by
  cases h with
  | lst h r => exact ⟨_, _, rfl, h, r⟩
mutual
/-- as HandS' own reading of data -/
theorem Rp.dp : ∀ {v : V} {d : PyData}, Rp K H v d → d.canLay0 = true → Dp K H v d
  | _, _, .non, _ => .non
  | _, _, .bl b, _ => .bl b
  | _, _, .int i, _ => .int i
  | _, _, .str x, _ => .str x
  | _, _, .lst h r, c => .lst h (RpAll.dp r (by simpa [PyData.canLay0] using c))
  | _, _, .tup h r, c => .tup (SqT.of h) (RpAll.dp r (by simpa [PyData.canLay0] using c))
  | _, _, .tupK (xs := xs) h n, c => .tup h (RpAll.dp (RpAll.strs xs) (by simpa [PyData.canLay0] using c))
  | _, _, .dk h r, c => by simp [PyData.canLay0] at c
  | _, _, .dt h r, c => by simp [PyData.canLay0] at c
theorem RpAll.dp : ∀ {vs : List V} {ds : List PyData}, RpAll K H vs ds → PyData.canLayAll0 ds = true → DpAll K H vs ds
  | _, _, .nil, _ => .nil
  | _, _, .cons h r, c => by
    rw [PyData.canLayAll0, Bool.and_eq_true] at c
    exact .cons (Rp.dp h c.1) (RpAll.dp r c.2)
end
end

/-! ### what is owned -/
inductive OV where
  | sh (d : PyData)
  | lst (xs : List OV)
  | dk (kvs : List (Key × OV))
  | dt (kvs : List (List Key × OV))
instance : Inhabited OV := ⟨.sh .none⟩

mutual
/-- the datum that an owned thing is, when it is frozen -/
def fz : OV → PyData
  | .sh d => d
  | .lst xs => .list (fzs xs)
  | .dk kvs => .dict (fzk kvs)
  | .dt kvs => .dict ((.none, .none) :: fzt kvs)
def fzs : List OV → List PyData
  | [] => []
  | x :: xs => fz x :: fzs xs
def fzk : List (Key × OV) → List (PyData × PyData)
  | [] => []
  | (k, x) :: xs => (kD k, fz x) :: fzk xs
def fzt : List (List Key × OV) → List (PyData × PyData)
  | [] => []
  | (k, x) :: xs => (ktD k, fz x) :: fzt xs
end
theorem fzs_eq : ∀ xs, fzs xs = xs.map fz
  | [] => by simp [fzs]
  | x :: xs => by simp [fzs, fzs_eq xs]
theorem fzk_eq : ∀ xs, fzk xs = xs.map fun p => (kD p.1, fz p.2)
  | [] => by simp [fzk]
  | (k, x) :: xs => by simp [fzk, fzk_eq xs]
theorem fzt_eq : ∀ xs, fzt xs = xs.map fun p => (ktD p.1, fz p.2)
  | [] => by simp [fzt]
  | (k, x) :: xs => by simp [fzt, fzt_eq xs]

abbrev Bs := List (Addr × HO)
mutual
/-- v is the owned thing o; bs: the objects that it owns, as they stand -/
inductive Own (K : PySem.W.Frag) (Hf : Hp) : V → OV → Bs → Prop
  | sh {v : V} {d : PyData} : Rp K Hf v d → Own K Hf v (.sh d) []
  | lst {a : Addr} {vs : List V} {os : List OV} {bs : Bs} : OwnL K Hf vs os bs → Own K Hf (.ref a) (.lst os) ((a, .lst vs) :: bs)
  | dk {a : Addr} {ks : List Key} {vs : List V} {os : List OV} {bs : Bs} : ks.length = vs.length → ks.Nodup → OwnL K Hf vs os bs → Own K Hf (.ref a) (.dk (ks.zip os)) ((a, .dK (ks.zip vs)) :: bs)
  | dt {a : Addr} {ks : List (List Key)} {vs : List V} {os : List OV} {bs : Bs} : ks.length = vs.length → ks.Nodup → OwnL K Hf vs os bs → Own K Hf (.ref a) (.dt (ks.zip os)) ((a, .dT (ks.zip vs)) :: bs)
inductive OwnL (K : PySem.W.Frag) (Hf : Hp) : List V → List OV → Bs → Prop
  | nil : OwnL K Hf [] [] []
  | cons {v : V} {vs : List V} {o : OV} {os : List OV} {b1 b2 : Bs} : Own K Hf v o b1 → OwnL K Hf vs os b2 → OwnL K Hf (v :: vs) (o :: os) (b1 ++ b2)
end
section
variable {K : PySem.W.Frag} {H H' : Hp}
mutual
theorem Own.mono (e : Ext H H') : ∀ {v : V} {o : OV} {bs : Bs}, Own K H v o bs → Own K H' v o bs
  | _, _, _, .sh h => .sh (h.mono e)
  | _, _, _, .lst h => .lst (OwnL.mono e h)
  | _, _, _, .dk l n h => .dk l n (OwnL.mono e h)
  | _, _, _, .dt l n h => .dt l n (OwnL.mono e h)
theorem OwnL.mono (e : Ext H H') : ∀ {vs : List V} {os : List OV} {bs : Bs}, OwnL K H vs os bs → OwnL K H' vs os bs
  | _, _, _, .nil => .nil
  | _, _, _, .cons h r => .cons (Own.mono e h) (OwnL.mono e r)
end
theorem OwnL.len : ∀ {vs : List V} {os : List OV} {bs : Bs}, OwnL K H vs os bs → vs.length = os.length
  | _, _, _, .nil => rfl
  | _, _, _, .cons _ r => congrArg (· + 1) r.len
theorem OwnL.append : ∀ {vs ws : List V} {os ps : List OV} {bs cs : Bs}, OwnL K H vs os bs → OwnL K H ws ps cs → OwnL K H (vs ++ ws) (os ++ ps) (bs ++ cs)
  | _, _, _, _, _, _, .nil, s => s
  | _, _, _, _, _, _, .cons h r, s => by
    rw [List.append_assoc]
    exact .cons h (r.append s)
/-- shared items own nothing -/
theorem OwnL.of_rp : ∀ {vs : List V} {ds : List PyData}, RpAll K H vs ds → OwnL K H vs (ds.map .sh) []
  | _, _, .nil => .nil
  | _, _, .cons h r => .cons (b1 := []) (b2 := []) (.sh h) (OwnL.of_rp r)
theorem OwnL.to_rp : ∀ {vs : List V} {ds : List PyData} {bs : Bs}, OwnL K H vs (ds.map .sh) bs → RpAll K H vs ds ∧ bs = []
  | _, [], _, .nil => ⟨.nil, rfl⟩
  | _, d :: ds, _, .cons (.sh h) r => by
    obtain ⟨h2, e⟩ := OwnL.to_rp r
    exact ⟨.cons h h2, by rw [e]; rfl⟩
/-- split at a place -/
theorem OwnL.split : ∀ {vs : List V} {os : List OV} {bs : Bs} {i : Nat} {o : OV}, OwnL K H vs os bs → os[i]? = some o →
    ∃ v b0 b1 b2, vs[i]? = some v ∧ bs = b0 ++ b1 ++ b2 ∧ Own K H v o b1 ∧ (∀ o' b' v', Own K H v' o' b' → OwnL K H (vs.set i v') (os.set i o') (b0 ++ b' ++ b2))
  | _, _, _, _, _, .nil, e => by simp at e
  | _, _, _, 0, _, .cons (b1 := b1) (b2 := b2) h r, e => by
    simp at e; subst e
    exact ⟨_, [], b1, b2, rfl, by simp, h, fun o' b' v' q => by simpa using OwnL.cons q r⟩
  | _, _, _, i + 1, o, .cons (b1 := c1) (b2 := c2) h r, e => by
    obtain ⟨v, b0, b1, b2, e1, e2, q, f⟩ := OwnL.split (i := i) (o := o) r (by simpa using e)
    refine ⟨v, c1 ++ b0, b1, b2, by simpa using e1, by rw [e2]; simp, q, fun o' b' v' q' => ?_⟩
    have := OwnL.cons h (f o' b' v' q')
    simpa using this
end

/-! ### the items that a state owns -/
abbrev Its := List (V × OV)
inductive OwnI (K : PySem.W.Frag) (Hf : Hp) : Its → Bs → Prop
  | nil : OwnI K Hf [] []
  | cons {v : V} {o : OV} {its : Its} {b1 b2 : Bs} : Own K Hf v o b1 → OwnI K Hf its b2 → OwnI K Hf ((v, o) :: its) (b1 ++ b2)
section
variable {K : PySem.W.Frag} {H H' : Hp}
theorem OwnI.mono (e : Ext H H') : ∀ {its : Its} {bs : Bs}, OwnI K H its bs → OwnI K H' its bs
  | _, _, .nil => .nil
  | _, _, .cons h r => .cons (h.mono e) (r.mono e)
theorem OwnI.append : ∀ {A B : Its} {bs cs : Bs}, OwnI K H A bs → OwnI K H B cs → OwnI K H (A ++ B) (bs ++ cs)
  | _, _, _, _, .nil, s => s
  | _, _, _, _, .cons h r, s => by
    rw [List.append_assoc]
    exact .cons h (r.append s)
theorem OwnI.split : ∀ {A B : Its} {bs : Bs}, OwnI K H (A ++ B) bs → ∃ b1 b2, bs = b1 ++ b2 ∧ OwnI K H A b1 ∧ OwnI K H B b2
  | [], _, bs, h => ⟨[], bs, rfl, .nil, h⟩
  | (v, o) :: A, B, _, .cons (b1 := c1) h r => by
    obtain ⟨b1, b2, e, h1, h2⟩ := OwnI.split (A := A) (B := B) r
    exact ⟨c1 ++ b1, b2, by rw [e, List.append_assoc], .cons h h1, h2⟩
theorem OwnI.perm {A B : Its} (p : A.Perm B) : ∀ {bs : Bs}, OwnI K H A bs → ∃ cs, bs.Perm cs ∧ OwnI K H B cs := by
  induction p with
  | nil => exact fun h => ⟨_, .refl _, h⟩
  | cons x _ ih =>
    intro bs h
    cases h with
    | cons h r =>
      obtain ⟨cs, q, r'⟩ := ih r
      exact ⟨_, q.append_left _, .cons h r'⟩
  | swap x y l =>
    intro bs h
    cases h with
    | cons h r =>
      cases r with
      | cons h' r' =>
        refine ⟨_, ?_, .cons h' (.cons h r')⟩
        rw [← List.append_assoc, ← List.append_assoc]
        exact (List.perm_append_comm).append_right _
  | trans _ _ ih1 ih2 =>
    intro bs h
    obtain ⟨cs, q, r⟩ := ih1 h
    obtain ⟨ds, q', r'⟩ := ih2 r
    exact ⟨ds, q.trans q', r'⟩
/-- the items of a list, as items of a state -/
theorem OwnL.its : ∀ {vs : List V} {os : List OV} {bs : Bs}, OwnL K H vs os bs → OwnI K H (vs.zip os) bs
  | _, _, _, .nil => .nil
  | _, _, _, .cons h r => .cons h r.its
theorem OwnI.lst : ∀ {vs : List V} {os : List OV} {bs : Bs}, vs.length = os.length → OwnI K H (vs.zip os) bs → OwnL K H vs os bs
  | [], [], _, _, .nil => .nil
  | _ :: vs, _ :: os, _, l, .cons h r => .cons h (OwnI.lst (by simpa using l) r)
end

/-- F: the caller's own objects, as they stand -/
structure SX (K : PySem.W.Frag) (Hf : Hp) (its : Its) (F : Bs) (H : Hp) : Prop where
  ex : ∃ bs, OwnI K Hf its bs ∧ ((bs ++ F).map (·.1)).Nodup ∧ ∀ p ∈ bs ++ F, H p.1 = some p.2 ∧ Hf p.1 = none
  sub : Ext Hf H
section
variable {K : PySem.W.Frag} {Hf Hf' H H' : Hp} {its A B : Its} {F bs : Bs} {v w : V} {o : OV} {d : PyData} {p : Addr}
theorem nodup_perm {l m : Bs} (q : l.Perm m) (h : (l.map (·.1)).Nodup) : (m.map (·.1)).Nodup := (q.map _).nodup_iff.mp h
theorem SX.perm (s : SX K Hf A F H) (q : A.Perm B) : SX K Hf B F H := by
  obtain ⟨⟨bs, h, n, a⟩, e⟩ := s
  obtain ⟨cs, qc, h'⟩ := h.perm q
  exact ⟨⟨cs, h', nodup_perm (qc.append_right F) n, fun p hp => a p ((qc.append_right F).mem_iff.mpr hp)⟩, e⟩
/-- a part is let go -/
theorem SX.tail (s : SX K Hf (A ++ B) F H) : SX K Hf B F H := by
  obtain ⟨⟨bs, h, n, a⟩, e⟩ := s
  obtain ⟨b1, b2, rfl, h1, h2⟩ := h.split
  refine ⟨⟨b2, h2, ?_, fun p hp => a p ?_⟩, e⟩
  · rw [List.append_assoc, List.map_append] at n
    exact (List.nodup_append.mp n).2.1
  · rw [List.append_assoc]
    exact List.mem_append_right _ hp
theorem SX.drop (s : SX K Hf ((v, o) :: its) F H) : SX K Hf its F H := SX.tail (A := [(v, o)]) s
theorem SX.head (s : SX K Hf (A ++ B) F H) : SX K Hf A F H := SX.tail (A := B) (B := A) (s.perm List.perm_append_comm)
/-- a part is framed -/
theorem SX.frame (s : SX K Hf (A ++ B) F H) : ∃ bs, OwnI K Hf B bs ∧ SX K Hf A (bs ++ F) H := by
  obtain ⟨⟨bs, h, n, a⟩, e⟩ := s
  obtain ⟨b1, b2, rfl, h1, h2⟩ := h.split
  rw [List.append_assoc] at n a
  exact ⟨b2, h2, ⟨b1, h1, n, a⟩, e⟩
theorem SX.unframe (s : SX K Hf A (bs ++ F) H) (h : OwnI K Hf B bs) : SX K Hf (A ++ B) F H := by
  obtain ⟨⟨b1, h1, n, a⟩, e⟩ := s
  rw [← List.append_assoc] at n a
  exact ⟨⟨b1 ++ bs, h1.append h, n, a⟩, e⟩
theorem SX.nil (e : Ext Hf H) : SX K Hf [] [] H := ⟨⟨[], .nil, by simp, fun p hp => by cases hp⟩, e⟩
/-- a datum that stands frozen -/
theorem SX.add (s : SX K Hf its F H) (r : Rp K Hf v d) : SX K Hf ((v, .sh d) :: its) F H := by
  obtain ⟨⟨bs, h, n, a⟩, e⟩ := s
  exact ⟨⟨[] ++ bs, .cons (.sh r) h, by simpa using n, fun p hp => a p (by simpa using hp)⟩, e⟩
theorem SX.rp (s : SX K Hf ((v, .sh d) :: its) F H) : Rp K Hf v d := by
  obtain ⟨⟨bs, h, n, a⟩, e⟩ := s
  cases h with
  | cons h _ => cases h; assumption
theorem SX.rpH (s : SX K Hf ((v, .sh d) :: its) F H) : Rp K H v d := s.rp.mono s.sub
theorem SX.no (s : SX K Hf its F H) (h : H p = none) : Hf p = none := s.sub.none h
/-- the frozen part grows (nothing else changed) -/
theorem SX.grow (s : SX K Hf its F H) (e : Same Hf Hf') (e' : Ext Hf' H) (k : ∀ a o, H a = some o → Hf a = none → Hf' a = none) : SX K Hf' its F H := by
  obtain ⟨⟨bs, h, n, a⟩, _⟩ := s
  exact ⟨⟨bs, h.mono (.of e), n, fun p hp => ⟨(a p hp).1, k _ _ (a p hp).1 (a p hp).2⟩⟩, e'⟩
/-- a new object, frozen -/
theorem SX.new {u : HO} (s : SX K Hf its F H) (hp : H p = Option.none) : SX K (upd Hf p u) its F (upd H p u) ∧ Same Hf (upd Hf p u) := by
  obtain ⟨⟨bs, h, n, a⟩, e⟩ := s
  have sm : Same Hf (upd Hf p u) := fun b x q => by rw [upd_ne (ne_of_none q (e.none hp))]; exact q
  refine ⟨⟨⟨bs, h.mono (.of sm), n, fun q hq => ?_⟩, fun b x q => ?_⟩, sm⟩
  · have hne : q.1 ≠ p := ne_of_none (a q hq).1 hp
    rw [upd_ne hne, upd_ne hne]
    exact a q hq
  · by_cases hb : b = p
    · subst hb; rw [upd_same] at q ⊢; exact .inl q
    · rw [upd_ne hb] at q
      rw [upd_ne hb]
      exact e b x q
/-- a new object, owned: C are the items that it takes in -/
theorem SX.newOwn {u : HO} {C : Its} {o : OV} (s : SX K Hf (C ++ its) F H) (hp : H p = Option.none) (mk : ∀ bs, OwnI K Hf C bs → Own K Hf (.ref p) o ((p, u) :: bs)) : SX K Hf ((.ref p, o) :: its) F (upd H p u) := by
  obtain ⟨⟨bs, h, n, a⟩, e⟩ := s
  obtain ⟨b1, b2, rfl, h1, h2⟩ := h.split
  have ne : ∀ q ∈ (b1 ++ b2) ++ F, q.1 ≠ p := fun q hq => ne_of_none (a q hq).1 hp
  refine ⟨⟨((p, u) :: b1) ++ b2, .cons (mk b1 h1) h2, ?_, fun q hq => ?_⟩, fun b x q => ?_⟩
  · show (p :: ((b1 ++ b2 ++ F).map (·.1))).Nodup
    refine List.nodup_cons.mpr ⟨fun hm => ?_, n⟩
    obtain ⟨q, hq, e⟩ := List.mem_map.mp hm
    exact ne q hq e
  · rcases List.mem_cons.mp hq with rfl | hq
    · exact ⟨upd_same, e.none hp⟩
    · rw [upd_ne (ne q hq)]; exact a q hq
  · have hb : b ≠ p := ne_of_none q (e.none hp)
    rw [upd_ne hb]; exact e b x q
/-- an owned object is changed: C are the items that it takes in, dr what it lets go -/
theorem SX.chg {C : Its} {a : Addr} {o' : OV} (R : HO → HO → Prop) (s : SX K Hf ((.ref a, o) :: (C ++ its)) F H)
    (ho : ∀ bs, Own K Hf (.ref a) o bs → ∃ u bs0, bs = (a, u) :: bs0 ∧ ∀ c1, OwnI K Hf C c1 → ∃ u' cs dr, (cs ++ dr).Perm (bs0 ++ c1) ∧ Own K Hf (.ref a) o' ((a, u') :: cs) ∧ R u u') :
    ∃ u u', H a = some u ∧ R u u' ∧ SX K Hf ((.ref a, o') :: its) F (upd H a u') := by
  obtain ⟨⟨bs, h, n, al⟩, e⟩ := s
  cases h with
  | cons h r =>
    obtain ⟨u, bs0, e1, hu⟩ := ho _ h
    subst e1
    obtain ⟨c1, c2, rfl, h1, h2⟩ := r.split
    obtain ⟨u', cs, dr, q, hn, hR⟩ := hu c1 h1
    have P : ((((a, u') :: (cs ++ dr)) ++ c2 ++ F).map (·.1)).Perm ((((a, u) :: bs0) ++ (c1 ++ c2) ++ F).map (·.1)) := by
      have q2 : ((cs ++ dr) ++ c2 ++ F).Perm (bs0 ++ (c1 ++ c2) ++ F) := by
        have := (q.append_right c2).append_right F
        simpa [List.append_assoc] using this
      simpa using List.Perm.cons a (q2.map (·.1))
    have nd1 : ((((a, u') :: (cs ++ dr)) ++ c2 ++ F).map (·.1)).Nodup := P.nodup_iff.mpr n
    have sl : (((a, u') :: cs) ++ c2 ++ F).Sublist (((a, u') :: (cs ++ dr)) ++ c2 ++ F) := by
      refine List.Sublist.append_right (List.Sublist.append_right ?_ _) _
      exact List.Sublist.cons_cons _ (List.sublist_append_left _ _)
    have nd : ((((a, u') :: cs) ++ c2 ++ F).map (·.1)).Nodup := nd1.sublist (sl.map _)
    have h0 := al (a, u) (by simp)
    refine ⟨u, u', h0.1, hR, ⟨((a, u') :: cs) ++ c2, .cons hn h2, nd, fun z hz => ?_⟩, fun b x z => ?_⟩
    · rcases List.mem_cons.mp hz with rfl | hz
      · exact ⟨upd_same, h0.2⟩
      · have ne : z.1 ≠ a := fun e => by
          have : a ∉ (cs ++ c2 ++ F).map (·.1) := (List.nodup_cons.mp nd).1
          exact this (List.mem_map.mpr ⟨z, hz, e⟩)
        rw [upd_ne ne]
        refine al z ?_
        have hz' : z ∈ cs ++ (c2 ++ F) := by rw [← List.append_assoc]; exact hz
        rcases List.mem_append.mp hz' with hz' | hz'
        · have := q.mem_iff.mp (List.mem_append_left dr hz')
          rcases List.mem_append.mp this with m | m <;> simp [m]
        · rcases List.mem_append.mp hz' with m | m <;> simp [m]
    · have ne : b ≠ a := fun z' => by
        have := h0.2
        rw [← z', z] at this; cases this
      rw [upd_ne ne]; exact e b x z
/-- append -/
theorem SX.push {a : Addr} {os : List OV} (s : SX K Hf ((.ref a, .lst os) :: (v, o) :: its) F H) : ∃ vs, vs.length = os.length ∧ H a = some (.lst vs) ∧ SX K Hf ((.ref a, .lst (os ++ [o])) :: its) F (upd H a (.lst (vs ++ [v]))) := by
  obtain ⟨u, u', h1, ⟨vs, rfl, rfl, hl⟩, h2⟩ := SX.chg (C := [(v, o)]) (o' := .lst (os ++ [o])) (fun u u' => ∃ vs, u = .lst vs ∧ u' = .lst (vs ++ [v]) ∧ vs.length = os.length) s (fun bs q => by
    cases q with
    | @lst _ vs _ b0 q =>
      refine ⟨_, _, rfl, fun c1 hc => ?_⟩
      cases hc with
      | cons hc hr =>
        cases hr
        exact ⟨.lst (vs ++ [v]), _, [], by rw [List.append_nil (_ ++ (_ ++ []))], .lst (q.append (.cons hc .nil)), vs, rfl, rfl, q.len⟩)
  exact ⟨vs, hl, h1, h2⟩
/-- what is owned, as it stands -/
theorem SX.lstAt {a : Addr} {os : List OV} (s : SX K Hf ((.ref a, .lst os) :: its) F H) : ∃ vs, vs.length = os.length ∧ H a = some (.lst vs) := by
  obtain ⟨⟨bs, h, n, al⟩, e⟩ := s
  cases h with
  | cons h r =>
    cases h with
    | @lst _ vs _ b0 q => exact ⟨vs, q.len, (al (a, .lst vs) (by simp)).1⟩
theorem SX.lstRef {os : List OV} (s : SX K Hf ((v, .lst os) :: its) F H) : ∃ a, v = .ref a := by
  obtain ⟨⟨bs, h, n, al⟩, e⟩ := s
  cases h with
  | cons h r => cases h; exact ⟨_, rfl⟩
end

/-! ### freezing -/
def addB (Hf : Hp) : Bs → Hp
  | [] => Hf
  | (a, u) :: bs => upd (addB Hf bs) a u
section
variable {K : PySem.W.Frag} {Hf Hf' H H' : Hp} {its A B : Its} {F bs : Bs} {v w : V} {o : OV} {d : PyData} {p : Addr}
theorem addB_mem : ∀ {bs : Bs} {q : Addr × HO}, (bs.map (·.1)).Nodup → q ∈ bs → addB Hf bs q.1 = some q.2
  | (a, u) :: bs, q, n, h => by
    have n' := List.nodup_cons.mp (show (a :: bs.map (·.1)).Nodup from n)
    rcases List.mem_cons.mp h with rfl | h
    · exact upd_same
    · have ne : q.1 ≠ a := fun e => n'.1 (List.mem_map.mpr ⟨q, h, e⟩)
      show upd (addB Hf bs) a u q.1 = _
      rw [upd_ne ne]
      exact addB_mem n'.2 h
theorem addB_not : ∀ {bs : Bs} {a : Addr}, a ∉ bs.map (·.1) → addB Hf bs a = Hf a
  | [], _, _ => rfl
  | (b, u) :: bs, a, h => by
    have h1 : a ≠ b := fun e => h (by simp [e])
    have h2 : a ∉ bs.map (·.1) := fun e => h (List.mem_cons_of_mem _ e)
    show upd (addB Hf bs) b u a = _
    rw [upd_ne h1]
    exact addB_not h2
theorem addB_cases {bs : Bs} {a : Addr} {u : HO} (h : addB Hf bs a = some u) : (a, u) ∈ bs ∨ Hf a = some u := by
  induction bs with
  | nil => exact .inr h
  | cons q bs ih =>
    obtain ⟨b, x⟩ := q
    have h : upd (addB Hf bs) b x a = some u := h
    by_cases e : a = b
    · subst e; rw [upd_same] at h; cases h; exact .inl List.mem_cons_self
    · rw [upd_ne e] at h
      rcases ih h with z | z
      · exact .inl (List.mem_cons_of_mem _ z)
      · exact .inr z
theorem zip_fst_map {α β γ : Type} (f : α → γ) : ∀ (ks : List α) (vs : List β), ks.length = vs.length → (ks.zip vs).map (fun p => f p.1) = ks.map f
  | [], [], _ => rfl
  | k :: ks, v :: vs, h => by
    simp only [List.zip_cons_cons, List.map_cons]
    rw [zip_fst_map f ks vs (by simpa using h)]
theorem zip_snd {α β : Type} : ∀ (ks : List α) (vs : List β), ks.length = vs.length → (ks.zip vs).map (·.2) = vs
  | [], [], _ => rfl
  | k :: ks, v :: vs, h => by
    simp only [List.zip_cons_cons, List.map_cons]
    rw [zip_snd ks vs (by simpa using h)]
theorem zip_maps {α β γ δ : Type} (f : α → γ) (g : β → δ) : ∀ (ks : List α) (os : List β), (ks.zip os).map (fun p => (f p.1, g p.2)) = (ks.map f).zip (os.map g)
  | [], _ => by simp
  | _ :: _, [] => by simp
  | k :: ks, o :: os => by simp [zip_maps f g ks os]
mutual
theorem Own.rp (e : Ext Hf H') : ∀ {v : V} {o : OV} {bs : Bs}, Own K Hf v o bs → (∀ q ∈ bs, H' q.1 = some q.2) → Rp K H' v (fz o)
  | _, _, _, .sh h, _ => by rw [fz]; exact h.mono e
  | _, _, _, .lst h, a => by
    rw [fz, fzs_eq]
    exact .lst (SqL.of (a _ List.mem_cons_self)) (OwnL.rp e h fun q hq => a q (List.mem_cons_of_mem _ hq))
  | _, _, _, .dk (ks := ks) (vs := vs) (os := os) l _ h, a => by
    have r := OwnL.rp e h fun q hq => a q (List.mem_cons_of_mem _ hq)
    rw [fz, fzk_eq, zip_maps, ← zip_fst_map kD ks vs l]
    exact .dk (.inl (a _ List.mem_cons_self)) (by rw [zip_snd _ _ l]; exact r)
  | _, _, _, .dt (ks := ks) (vs := vs) (os := os) l _ h, a => by
    have r := OwnL.rp e h fun q hq => a q (List.mem_cons_of_mem _ hq)
    rw [fz, fzt_eq, zip_maps, ← zip_fst_map ktD ks vs l]
    exact .dt (.inl (a _ List.mem_cons_self)) (by rw [zip_snd _ _ l]; exact r)
theorem OwnL.rp (e : Ext Hf H') : ∀ {vs : List V} {os : List OV} {bs : Bs}, OwnL K Hf vs os bs → (∀ q ∈ bs, H' q.1 = some q.2) → RpAll K H' vs (os.map fz)
  | _, _, _, .nil, _ => .nil
  | _, _, _, .cons h r, a => .cons (Own.rp e h fun q hq => a q (List.mem_append_left _ hq)) (OwnL.rp e r fun q hq => a q (List.mem_append_right _ hq))
end
/-- what is owned becomes shared -/
theorem SX.freeze (s : SX K Hf ((v, o) :: its) F H) : ∃ Hf', Same Hf Hf' ∧ SX K Hf' ((v, .sh (fz o)) :: its) F H := by
  obtain ⟨⟨bs, h, n, al⟩, e⟩ := s
  cases h with
  | @cons _ _ _ b1 b2 h r =>
    have nd1 : (b1.map (·.1)).Nodup := by
      rw [List.append_assoc, List.map_append] at n
      exact (List.nodup_append.mp n).1
    have key : ∀ q ∈ b1, Hf q.1 = Option.none := fun q hq => (al q (by simp [hq])).2
    have sm : Same Hf (addB Hf b1) := fun a u hu => by
      rw [addB_not]
      · exact hu
      · intro hm
        obtain ⟨q, hq, rfl⟩ := List.mem_map.mp hm
        rw [key q hq] at hu; cases hu
    have mem : ∀ q ∈ b1, addB Hf b1 q.1 = some q.2 := fun q hq => addB_mem nd1 hq
    refine ⟨addB Hf b1, sm, ⟨[] ++ b2, .cons (.sh (h.rp (.of sm) mem)) (r.mono (.of sm)), ?_, fun q hq => ?_⟩, fun a u hu => ?_⟩
    · rw [List.append_assoc, List.map_append] at n
      exact (List.nodup_append.mp n).2.1
    · have hq' : q ∈ b1 ++ b2 ++ F := by rw [List.append_assoc]; exact List.mem_append_right _ hq
      refine ⟨(al q hq').1, ?_⟩
      rw [addB_not]
      · exact (al q hq').2
      · intro hm
        obtain ⟨z, hz, ez⟩ := List.mem_map.mp hm
        rw [List.append_assoc, List.map_append] at n
        have hq2 : q.1 ∈ (b2 ++ F).map (·.1) := List.mem_map.mpr ⟨q, by simpa using hq, rfl⟩
        exact (List.nodup_append.mp n).2.2 q.1 (List.mem_map.mpr ⟨z, hz, ez⟩) q.1 hq2 rfl
    · rcases addB_cases hu with m | m
      · exact .inl (al (a, u) (by simp [m])).1
      · exact e a u m
/-- any item, as it is read now -/
theorem SX.rdH (s : SX K Hf ((v, o) :: its) F H) : Rp K H v (fz o) := by
  obtain ⟨⟨bs, h, n, al⟩, e⟩ := s
  cases h with
  | @cons _ _ _ b1 b2 h r => exact h.rp e fun q hq => (al q (by simp [hq])).1
end
end Ev
namespace Ev
open PySem PySem.Spec L2
open PyProof.Rows hiding St

/-! ### states -/
abbrev Rho := List (Option OV)
structure Exn where
  cls : Str
  cell : PyData
/-- what an expression gives: a value; values; a test's answer; what a statement does; what a def hands back -/
inductive Re where
  | ok (o : OV) (ρ : Rho) | exc (e : Exn) (ρ : Rho) | stk
inductive ReL where
  | ok (os : List OV) (ρ : Rho) | exc (e : Exn) (ρ : Rho) | stk
inductive ReB where
  | ok (b : Bool) (ρ : Rho) | exc (e : Exn) (ρ : Rho) | stk
inductive Out where
  | next (ρ : Rho) | ret (o : OV) (ρ : Rho) | brk (ρ : Rho) | cnt (ρ : Rho) | exc (e : Exn) (ρ : Rho) | stk
inductive Rv where
  | ok (o : OV) | exc (e : Exn) | stk

/-- the slots' items -/
inductive Slots : St → Rho → Its → Prop
  | nil : Slots [] [] []
  | no {σ : St} {ρ : Rho} {its : Its} {x : Option V} : Slots σ ρ its → Slots (x :: σ) (none :: ρ) its
  | yes {σ : St} {ρ : Rho} {its : Its} {v : V} {o : OV} : Slots σ ρ its → Slots (some v :: σ) (some o :: ρ) ((v, o) :: its)
theorem Slots.len : ∀ {σ : St} {ρ : Rho} {its : Its}, Slots σ ρ its → σ.length = ρ.length
  | _, _, _, .nil => rfl
  | _, _, _, .no r => congrArg (· + 1) r.len
  | _, _, _, .yes r => congrArg (· + 1) r.len
theorem Slots.get : ∀ {σ : St} {ρ : Rho} {its : Its} {i : Nat} {o : OV}, Slots σ ρ its → ρ[i]? = some (some o) →
    ∃ v A B, σ[i]? = some (some v) ∧ its = A ++ (v, o) :: B ∧ (∀ o', Slots σ (ρ.set i (some o')) (A ++ (v, o') :: B)) ∧ Slots σ (ρ.set i none) (A ++ B)
  | _, _, _, _, _, .nil, h => by simp at h
  | _, _, _, 0, _, .no r, h => by simp at h
  | _, _, _, i + 1, _, .no r, h => by
    obtain ⟨v, A, B, h1, h2, h3, h4⟩ := r.get (i := i) (by simpa using h)
    exact ⟨v, A, B, by simpa using h1, h2, fun o' => by simpa using Slots.no (h3 o'), by simpa using Slots.no h4⟩
  | _, _, _, 0, _, .yes (v := v) (its := its) r, h => by
    simp at h; subst h
    exact ⟨v, [], its, rfl, rfl, fun o' => .yes r, .no r⟩
  | _, _, _, i + 1, _, .yes (v := w) (o := p) r, h => by
    obtain ⟨v, A, B, h1, h2, h3, h4⟩ := r.get (i := i) (by simpa using h)
    exact ⟨v, (w, p) :: A, B, by simpa using h1, by rw [h2]; rfl, fun o' => by simpa using Slots.yes (h3 o'), by simpa using Slots.yes h4⟩
theorem Slots.put : ∀ {σ : St} {ρ : Rho} {its : Its} {i : Nat} (v : V) (o : OV), Slots σ ρ its → i < ρ.length →
    ∃ A M B, its = A ++ (M ++ B) ∧ Slots (σ.set i (some v)) (ρ.set i (some o)) (A ++ (v, o) :: B)
  | _, _, _, _, _, _, .nil, h => by simp at h
  | _, _, _, 0, v, o, .no (its := its) r, h => ⟨[], [], its, rfl, .yes r⟩
  | _, _, _, i + 1, v, o, .no r, h => by
    obtain ⟨A, M, B, h1, h2⟩ := r.put (i := i) v o (by simpa using h)
    exact ⟨A, M, B, h1, by simpa using Slots.no h2⟩
  | _, _, _, 0, v, o, .yes (v := w) (o := p) (its := its) r, h => ⟨[], [(w, p)], its, rfl, .yes r⟩
  | _, _, _, i + 1, v, o, .yes (v := w) (o := p) r, h => by
    obtain ⟨A, M, B, h1, h2⟩ := r.put (i := i) v o (by simpa using h)
    exact ⟨(w, p) :: A, M, B, by rw [h1]; rfl, by simpa using Slots.yes h2⟩
/-- a slot is forgotten -/
theorem Slots.forget : ∀ {σ : St} {ρ : Rho} {its : Its} (i : Nat) (x : Option V), Slots σ ρ its → ∃ A M B, its = A ++ (M ++ B) ∧ Slots (σ.set i x) (ρ.set i none) (A ++ B)
  | _, _, _, _, _, .nil => ⟨[], [], [], rfl, .nil⟩
  | _, _, _, 0, _, .no (its := its) r => ⟨[], [], its, rfl, .no r⟩
  | _, _, _, i + 1, x, .no r => by
    obtain ⟨A, M, B, h1, h2⟩ := r.forget i x
    exact ⟨A, M, B, h1, by simpa using Slots.no h2⟩
  | _, _, _, 0, _, .yes (v := w) (o := p) (its := its) r => ⟨[], [(w, p)], its, rfl, .no r⟩
  | _, _, _, i + 1, x, .yes (v := w) (o := p) r => by
    obtain ⟨A, M, B, h1, h2⟩ := r.forget i x
    exact ⟨(w, p) :: A, M, B, by rw [h1]; rfl, by simpa using Slots.yes h2⟩
theorem Slots.forget' {σ : St} {ρ : Rho} {its : Its} (i : Nat) (h : Slots σ ρ its) : ∃ A M B, its = A ++ (M ++ B) ∧ Slots σ (ρ.set i none) (A ++ B) := by
  by_cases hi : i < σ.length
  · obtain ⟨A, M, B, h1, h2⟩ := h.forget i (σ[i])
    exact ⟨A, M, B, h1, by simpa using h2⟩
  · have hρ : ρ.set i none = ρ := List.set_eq_of_length_le (by rw [← h.len]; omega)
    exact ⟨its, [], [], by simp, by rw [hρ]; simpa using h⟩

theorem permA {α : Type} (T A M B : List α) : (T ++ (A ++ (M ++ B))).Perm (M ++ (T ++ (A ++ B))) := by
  rw [← List.append_assoc T A (M ++ B), ← List.append_assoc T A B]
  exact List.perm_append_comm_assoc _ _ _
theorem permB {α : Type} (x : α) (T A M B : List α) : (x :: (T ++ (A ++ (M ++ B)))).Perm (M ++ (T ++ (A ++ x :: B))) := by
  refine ((permA T A M B).cons x).trans ?_
  rw [← List.append_assoc T A B, ← List.append_assoc M (T ++ A) B, ← List.append_assoc T A (x :: B), ← List.append_assoc M (T ++ A) (x :: B)]
  exact List.perm_middle.symm
structure SI (K : PySem.W.Frag) (Hf : Hp) (T : Its) (ρ : Rho) (F : Bs) (σ : St) (H : Hp) : Prop where
  ex : ∃ its, Slots σ ρ its ∧ SX K Hf (T ++ its) F H
section
variable {K : PySem.W.Frag} {Hf Hf' H H' : Hp} {T T' A B : Its} {F bs : Bs} {v w : V} {o o' : OV} {d : PyData} {p : Addr} {ρ ρ' : Rho} {σ : St} {i : Nat}
theorem SI.perm (s : SI K Hf T ρ F σ H) (q : T.Perm T') : SI K Hf T' ρ F σ H := by
  obtain ⟨its, h, s⟩ := s.ex
  exact ⟨its, h, s.perm (q.append_right _)⟩
theorem SI.drop (s : SI K Hf ((v, o) :: T) ρ F σ H) : SI K Hf T ρ F σ H := by
  obtain ⟨its, h, s⟩ := s.ex
  exact ⟨its, h, s.drop⟩
theorem SI.dropT (s : SI K Hf T ρ F σ H) : SI K Hf [] ρ F σ H := by
  obtain ⟨its, h, s⟩ := s.ex
  exact ⟨its, h, s.tail⟩
theorem SI.sub (s : SI K Hf T ρ F σ H) : Ext Hf H := by
  obtain ⟨its, h, s⟩ := s.ex
  exact s.sub
theorem SI.len (s : SI K Hf T ρ F σ H) : σ.length = ρ.length := by
  obtain ⟨its, h, s⟩ := s.ex
  exact h.len
theorem SI.freeze (s : SI K Hf ((v, o) :: T) ρ F σ H) : ∃ Hf', Same Hf Hf' ∧ SI K Hf' ((v, .sh (fz o)) :: T) ρ F σ H := by
  obtain ⟨its, h, s⟩ := s.ex
  obtain ⟨Hf', sm, s'⟩ := SX.freeze (its := T ++ its) s
  exact ⟨Hf', sm, its, h, s'⟩
theorem SI.rp (s : SI K Hf ((v, .sh d) :: T) ρ F σ H) : Rp K Hf v d := by
  obtain ⟨its, h, s⟩ := s.ex
  exact SX.rp (its := T ++ its) s
theorem SI.rdH (s : SI K Hf ((v, o) :: T) ρ F σ H) : Rp K H v (fz o) := by
  obtain ⟨its, h, s⟩ := s.ex
  exact SX.rdH (its := T ++ its) s
theorem SI.add (s : SI K Hf T ρ F σ H) (r : Rp K Hf v d) : SI K Hf ((v, .sh d) :: T) ρ F σ H := by
  obtain ⟨its, h, s⟩ := s.ex
  exact ⟨its, h, SX.add (its := T ++ its) s r⟩
/-- a slot's item, taken out -/
theorem SI.take (s : SI K Hf T ρ F σ H) (h : ρ[i]? = some (some o)) : ∃ v, σ[i]? = some (some v) ∧ SI K Hf ((v, o) :: T) (ρ.set i none) F σ H ∧ (∀ o' Hf' H', SI K Hf' ((v, o') :: T) (ρ.set i none) F σ H' → SI K Hf' T (ρ.set i (some o')) F σ H') := by
  obtain ⟨its, hs, s⟩ := s.ex
  obtain ⟨v, A, B, h1, rfl, h3, h4⟩ := hs.get h
  refine ⟨v, h1, ⟨A ++ B, h4, s.perm ?_⟩, fun o' Hf' H' s' => ?_⟩
  · have : (T ++ (A ++ (v, o) :: B)).Perm ((v, o) :: (T ++ (A ++ B))) := by
      rw [← List.append_assoc, ← List.append_assoc]
      exact List.perm_middle
    exact this
  · obtain ⟨its', hs', s''⟩ := s'.ex
    have : its' = A ++ B := by
      have f : ∀ {σ : St} {ρ : Rho} {a b : Its}, Slots σ ρ a → Slots σ ρ b → a = b := by
        intro σ ρ a b ha
        induction ha generalizing b with
        | nil => intro hb; cases hb; rfl
        | no r ih => intro hb; cases hb with | no q => exact ih q
        | yes r ih => intro hb; cases hb with | yes q => rw [ih q]
      exact f hs' h4
    subst this
    refine ⟨A ++ (v, o') :: B, h3 o', s''.perm ?_⟩
    have : ((v, o') :: (T ++ (A ++ B))).Perm (T ++ (A ++ (v, o') :: B)) := by
      rw [← List.append_assoc, ← List.append_assoc]
      exact List.perm_middle.symm
    exact this
/-- a slot is stored -/
theorem SI.put (s : SI K Hf ((v, o) :: T) ρ F σ H) (hi : i < ρ.length) : SI K Hf T (ρ.set i (some o)) F (σ.set i (some v)) H := by
  obtain ⟨its, h, s⟩ := s.ex
  obtain ⟨A, M, B, rfl, h2⟩ := h.put v o hi
  exact ⟨_, h2, SX.tail (A := M) (s.perm (permB (v, o) T A M B))⟩
/-- a slot is forgotten -/
theorem SI.forget (s : SI K Hf T ρ F σ H) (i : Nat) : SI K Hf T (ρ.set i none) F σ H := by
  obtain ⟨its, h, s⟩ := s.ex
  obtain ⟨A, M, B, rfl, h2⟩ := h.forget' i
  exact ⟨_, h2, SX.tail (A := M) (s.perm (permA T A M B))⟩
/-- what is beside a part is framed -/
theorem SI.framed (s : SI K Hf (A ++ B) ρ F σ H) : ∃ bs, SX K Hf A (bs ++ F) H ∧ ∀ Hf' H' A', Same Hf Hf' → SX K Hf' A' (bs ++ F) H' → SI K Hf' (A' ++ B) ρ F σ H' := by
  obtain ⟨its, h, s⟩ := s.ex
  rw [List.append_assoc] at s
  obtain ⟨bs, hB, s'⟩ := s.frame
  refine ⟨bs, s', fun Hf' H' A' sm q => ⟨its, h, ?_⟩⟩
  rw [List.append_assoc]
  exact q.unframe (hB.mono (.of sm))
theorem SI.new {u : HO} (s : SI K Hf T ρ F σ H) (hp : H p = Option.none) : SI K (upd Hf p u) T ρ F σ (upd H p u) ∧ Same Hf (upd Hf p u) := by
  obtain ⟨its, h, s⟩ := s.ex
  obtain ⟨s', sm⟩ := s.new (u := u) hp
  exact ⟨⟨its, h, s'⟩, sm⟩
end

/-! ### judgements -/
/-- the exception e, as it lies in H -/
def ExnIs (mg : Str → Option Value) (K : PySem.W.Frag) (Hf H : Hp) (e : Exn) (cls : Value) (d : Option Addr) : Prop :=
  ∃ (C dx : Addr) (fs : List (Str × V)) (v : V), mg e.cls = some (.ref C) ∧ cls = .ref C ∧ d = some dx ∧ H dx = some (.xd fs) ∧ fs.lookup ("cell" : Str) = some v ∧ Rp K Hf v e.cell
section
variable (X : Cx) (W : WX) (Hf : Hp) (T : Its) (F : Bs) (σ : St)
def PostE (r : Re) (Q : VK) : Prop :=
  match r with
  | .ok o ρ' => ∀ v H' Hf', Same Hf Hf' → SI X.K Hf' ((v, o) :: T) ρ' F σ H' → Q v H'
  | .exc e ρ' => ∀ H' Hf' cls d, Same Hf Hf' → SI X.K Hf' [] ρ' F σ H' → ExnIs X.mg X.K Hf' H' e cls d → W cls d σ H'
  | .stk => False
def PostL (r : ReL) (Q : List V → Hp → Prop) : Prop :=
  match r with
  | .ok os ρ' => ∀ vs H' Hf', vs.length = os.length → Same Hf Hf' → SI X.K Hf' (vs.zip os ++ T) ρ' F σ H' → Q vs H'
  | .exc e ρ' => ∀ H' Hf' cls d, Same Hf Hf' → SI X.K Hf' [] ρ' F σ H' → ExnIs X.mg X.K Hf' H' e cls d → W cls d σ H'
  | .stk => False
def PostB (r : ReB) (Q : Bool → Hp → Prop) : Prop :=
  match r with
  | .ok b ρ' => ∀ H' Hf', Same Hf Hf' → SI X.K Hf' T ρ' F σ H' → Q b H'
  | .exc e ρ' => ∀ H' Hf' cls d, Same Hf Hf' → SI X.K Hf' [] ρ' F σ H' → ExnIs X.mg X.K Hf' H' e cls d → W cls d σ H'
  | .stk => False
def PostS (r : Out) (D : Ends) : Prop :=
  match r with
  | .next ρ' => ∀ σ' H' Hf', Same Hf Hf' → SI X.K Hf' [] ρ' F σ' H' → D.nx σ' H'
  | .ret o ρ' => ∀ v σ' H' Hf', Same Hf Hf' → SI X.K Hf' [(v, o)] ρ' F σ' H' → D.rt v H'
  | .brk ρ' => ∀ σ' H' Hf', Same Hf Hf' → SI X.K Hf' [] ρ' F σ' H' → D.bk σ' H'
  | .cnt ρ' => ∀ σ' H' Hf', Same Hf Hf' → SI X.K Hf' [] ρ' F σ' H' → D.ct σ' H'
  | .exc e ρ' => ∀ σ' H' Hf' cls d, Same Hf Hf' → SI X.K Hf' [] ρ' F σ' H' → ExnIs X.mg X.K Hf' H' e cls d → W cls d σ' H'
  | .stk => False
end
def tE (X : Cx) (W : WX) (f : Rho → Re) : TE := fun σ H Q => ∃ Hf T ρ F, SI X.K Hf T ρ F σ H ∧ PostE X W Hf T F σ (f ρ) Q
def tL (X : Cx) (W : WX) (f : Rho → ReL) : TA := fun σ H Q => ∃ Hf T ρ F, SI X.K Hf T ρ F σ H ∧ PostL X W Hf T F σ (f ρ) Q
def tT (X : Cx) (W : WX) (f : Rho → ReB) : TT := fun σ H Q => ∃ Hf T ρ F, SI X.K Hf T ρ F σ H ∧ PostB X W Hf T F σ (f ρ) Q
def tSt (X : Cx) (W : WX) (g : Rho → Out) : TS := fun D σ H => ∃ Hf ρ F, SI X.K Hf [] ρ F σ H ∧ PostS X W Hf F (g ρ) D

/-- e computes f -/
def EvE (X : Cx) (W : WX) (e : Expr) (f : Rho → Re) : Prop := PE X e (tE X W f)
def EvL (X : Cx) (W : WX) (es : List Expr) (f : Rho → ReL) : Prop := PA X es (tL X W f)
def EvT (X : Cx) (W : WX) (e : Expr) (f : Rho → ReB) : Prop := PT X e (tT X W f)
def EvC (X : Cx) (W : WX) (op : CmpOp) (a b : Expr) (f : Rho → Re) : Prop := PC X op a b (tE X W f)
def EvS (X : Cx) (W : WX) (st : Stmt) (g : Rho → Out) : Prop := PS X st (tSt X W g)
def EvB (X : Cx) (W : WX) (sts : List Stmt) (g : Rho → Out) : Prop := PSs X sts (tSt X W g)

theorem pe_w {X : Cx} {e : Expr} {t t' : TE} (h : PE X e t) (hw : ∀ σ H Q, t' σ H Q → t σ H Q) : PE X e t' := ⟨fun pins s σ H Q I h' => h.run pins s σ H Q I (hw σ H Q h')⟩
theorem pa_w {X : Cx} {es : List Expr} {t t' : TA} (h : PA X es t) (hw : ∀ σ H Q, t' σ H Q → t σ H Q) : PA X es t' := ⟨fun pos pins s σ H Q I h' => h.run pos pins s σ H Q I (hw σ H Q h')⟩
theorem pt_w {X : Cx} {e : Expr} {t t' : TT} (h : PT X e t) (hw : ∀ σ H Q, t' σ H Q → t σ H Q) : PT X e t' := ⟨fun pins s σ H Q I h' => h.run pins s σ H Q I (hw σ H Q h')⟩
theorem pc_w {X : Cx} {op : CmpOp} {a b : Expr} {t t' : TE} (h : PC X op a b t) (hw : ∀ σ H Q, t' σ H Q → t σ H Q) : PC X op a b t' := ⟨fun pins s σ H Q I h' => h.run pins s σ H Q I (hw σ H Q h')⟩
theorem ps_w {X : Cx} {st : Stmt} {t t' : TS} (h : PS X st t) (hw : ∀ D σ H, t' D σ H → t D σ H) : PS X st t' := ⟨fun pins s σ H D I h' => h.run pins s σ H D I (hw D σ H h')⟩
theorem pss_w {X : Cx} {st : List Stmt} {t t' : TS} (h : PSs X st t) (hw : ∀ D σ H, t' D σ H → t D σ H) : PSs X st t' := ⟨fun pins s σ H D I h' => h.run pins s σ H D I (hw D σ H h')⟩

/-! ### sequences -/
def bindE (r : Re) (k : OV → Rho → Re) : Re := match r with
  | .ok o ρ => k o ρ
  | .exc e ρ => .exc e ρ
  | .stk => .stk
def bindEL (r : Re) (k : OV → Rho → ReL) : ReL := match r with
  | .ok o ρ => k o ρ
  | .exc e ρ => .exc e ρ
  | .stk => .stk
def bindL (r : ReL) (k : List OV → Rho → Re) : Re := match r with
  | .ok o ρ => k o ρ
  | .exc e ρ => .exc e ρ
  | .stk => .stk
def bindLL (r : ReL) (k : List OV → Rho → ReL) : ReL := match r with
  | .ok o ρ => k o ρ
  | .exc e ρ => .exc e ρ
  | .stk => .stk
def bindB (r : ReB) (k : Bool → Rho → Re) : Re := match r with
  | .ok o ρ => k o ρ
  | .exc e ρ => .exc e ρ
  | .stk => .stk
def bindBB (r : ReB) (k : Bool → Rho → ReB) : ReB := match r with
  | .ok o ρ => k o ρ
  | .exc e ρ => .exc e ρ
  | .stk => .stk
def bindEB (r : Re) (k : OV → Rho → ReB) : ReB := match r with
  | .ok o ρ => k o ρ
  | .exc e ρ => .exc e ρ
  | .stk => .stk
def bindS (r : Re) (k : OV → Rho → Out) : Out := match r with
  | .ok o ρ => k o ρ
  | .exc e ρ => .exc e ρ
  | .stk => .stk
def bindBS (r : ReB) (k : Bool → Rho → Out) : Out := match r with
  | .ok o ρ => k o ρ
  | .exc e ρ => .exc e ρ
  | .stk => .stk
section
variable {X : Cx} {W : WX} {Hf : Hp} {T T' : Its} {F : Bs} {σ : St} {Q : VK}
theorem PostE.mono {Hf' : Hp} (sm : Same Hf Hf') : ∀ {r : Re}, PostE X W Hf T F σ r Q → PostE X W Hf' T F σ r Q
  | .ok _ _, h => fun v H' Hf2 s => h v H' Hf2 (sm.trans s)
  | .exc _ _, h => fun H' Hf2 cls d s => h H' Hf2 cls d (sm.trans s)
  | .stk, h => h
theorem PostL.mono {Hf' : Hp} (sm : Same Hf Hf') {Q : List V → Hp → Prop} : ∀ {r : ReL}, PostL X W Hf T F σ r Q → PostL X W Hf' T F σ r Q
  | .ok _ _, h => fun v H' Hf2 l s => h v H' Hf2 l (sm.trans s)
  | .exc _ _, h => fun H' Hf2 cls d s => h H' Hf2 cls d (sm.trans s)
  | .stk, h => h
theorem PostB.mono {Hf' : Hp} (sm : Same Hf Hf') {Q : Bool → Hp → Prop} : ∀ {r : ReB}, PostB X W Hf T F σ r Q → PostB X W Hf' T F σ r Q
  | .ok _ _, h => fun H' Hf2 s => h H' Hf2 (sm.trans s)
  | .exc _ _, h => fun H' Hf2 cls d s => h H' Hf2 cls d (sm.trans s)
  | .stk, h => h
theorem PostS.mono {Hf' : Hp} (sm : Same Hf Hf') {D : Ends} : ∀ {r : Out}, PostS X W Hf F r D → PostS X W Hf' F r D
  | .next _, h => fun σ' H' Hf2 s => h σ' H' Hf2 (sm.trans s)
  | .ret _ _, h => fun v σ' H' Hf2 s => h v σ' H' Hf2 (sm.trans s)
  | .brk _, h => fun σ' H' Hf2 s => h σ' H' Hf2 (sm.trans s)
  | .cnt _, h => fun σ' H' Hf2 s => h σ' H' Hf2 (sm.trans s)
  | .exc _ _, h => fun σ' H' Hf2 cls d s => h σ' H' Hf2 cls d (sm.trans s)
  | .stk, h => h
theorem PostE.bind {r : Re} {k : OV → Rho → Re} {Q1 : VK} (h : PostE X W Hf T F σ (bindE r k) Q)
    (hk : ∀ a ρ1 v H1 Hf1, Same Hf Hf1 → SI X.K Hf1 ((v, a) :: T') ρ1 F σ H1 → PostE X W Hf1 T F σ (k a ρ1) Q → Q1 v H1) : PostE X W Hf T' F σ r Q1 := by
  cases r with
  | ok o ρ => exact fun v H1 Hf1 sm s => hk o ρ v H1 Hf1 sm s (PostE.mono sm h)
  | exc e ρ => exact h
  | stk => exact h
theorem PostE.bindEL {r : Re} {k : OV → Rho → ReL} {Q : List V → Hp → Prop} {Q1 : VK} (h : PostL X W Hf T F σ (bindEL r k) Q)
    (hk : ∀ a ρ1 v H1 Hf1, Same Hf Hf1 → SI X.K Hf1 ((v, a) :: T') ρ1 F σ H1 → PostL X W Hf1 T F σ (k a ρ1) Q → Q1 v H1) : PostE X W Hf T' F σ r Q1 := by
  cases r with
  | ok o ρ => exact fun v H1 Hf1 sm s => hk o ρ v H1 Hf1 sm s (PostL.mono sm h)
  | exc e ρ => exact h
  | stk => exact h
theorem PostL.bind {r : ReL} {k : List OV → Rho → Re} {Q1 : List V → Hp → Prop} (h : PostE X W Hf T F σ (bindL r k) Q)
    (hk : ∀ as ρ1 vs H1 Hf1, vs.length = as.length → Same Hf Hf1 → SI X.K Hf1 (vs.zip as ++ T') ρ1 F σ H1 → PostE X W Hf1 T F σ (k as ρ1) Q → Q1 vs H1) : PostL X W Hf T' F σ r Q1 := by
  cases r with
  | ok o ρ => exact fun v H1 Hf1 l sm s => hk o ρ v H1 Hf1 l sm s (PostE.mono sm h)
  | exc e ρ => exact h
  | stk => exact h
theorem PostL.bindLL {r : ReL} {k : List OV → Rho → ReL} {Q : List V → Hp → Prop} {Q1 : List V → Hp → Prop} (h : PostL X W Hf T F σ (bindLL r k) Q)
    (hk : ∀ as ρ1 vs H1 Hf1, vs.length = as.length → Same Hf Hf1 → SI X.K Hf1 (vs.zip as ++ T') ρ1 F σ H1 → PostL X W Hf1 T F σ (k as ρ1) Q → Q1 vs H1) : PostL X W Hf T' F σ r Q1 := by
  cases r with
  | ok o ρ => exact fun v H1 Hf1 l sm s => hk o ρ v H1 Hf1 l sm s (PostL.mono sm h)
  | exc e ρ => exact h
  | stk => exact h
theorem PostB.bind {r : ReB} {k : Bool → Rho → Re} {Q1 : Bool → Hp → Prop} (h : PostE X W Hf T F σ (bindB r k) Q)
    (hk : ∀ b ρ1 H1 Hf1, Same Hf Hf1 → SI X.K Hf1 T' ρ1 F σ H1 → PostE X W Hf1 T F σ (k b ρ1) Q → Q1 b H1) : PostB X W Hf T' F σ r Q1 := by
  cases r with
  | ok o ρ => exact fun H1 Hf1 sm s => hk o ρ H1 Hf1 sm s (PostE.mono sm h)
  | exc e ρ => exact h
  | stk => exact h
theorem PostB.bindBB {r : ReB} {k : Bool → Rho → ReB} {Q Q1 : Bool → Hp → Prop} (h : PostB X W Hf T F σ (bindBB r k) Q)
    (hk : ∀ b ρ1 H1 Hf1, Same Hf Hf1 → SI X.K Hf1 T' ρ1 F σ H1 → PostB X W Hf1 T F σ (k b ρ1) Q → Q1 b H1) : PostB X W Hf T' F σ r Q1 := by
  cases r with
  | ok o ρ => exact fun H1 Hf1 sm s => hk o ρ H1 Hf1 sm s (PostB.mono sm h)
  | exc e ρ => exact h
  | stk => exact h
theorem PostE.bindEB {r : Re} {k : OV → Rho → ReB} {Q : Bool → Hp → Prop} {Q1 : VK} (h : PostB X W Hf T F σ (bindEB r k) Q)
    (hk : ∀ a ρ1 v H1 Hf1, Same Hf Hf1 → SI X.K Hf1 ((v, a) :: T') ρ1 F σ H1 → PostB X W Hf1 T F σ (k a ρ1) Q → Q1 v H1) : PostE X W Hf T' F σ r Q1 := by
  cases r with
  | ok o ρ => exact fun v H1 Hf1 sm s => hk o ρ v H1 Hf1 sm s (PostB.mono sm h)
  | exc e ρ => exact h
  | stk => exact h
theorem PostE.bindS {r : Re} {k : OV → Rho → Out} {D : Ends} {Q1 : VK} (h : PostS X W Hf F (bindS r k) D)
    (hk : ∀ a ρ1 v H1 Hf1, Same Hf Hf1 → SI X.K Hf1 ((v, a) :: T') ρ1 F σ H1 → PostS X W Hf1 F (k a ρ1) D → Q1 v H1) : PostE X W Hf T' F σ r Q1 := by
  cases r with
  | ok o ρ => exact fun v H1 Hf1 sm s => hk o ρ v H1 Hf1 sm s (PostS.mono sm h)
  | exc e ρ => exact fun H' Hf' cls d sm s x => h σ H' Hf' cls d sm s x
  | stk => exact h
theorem PostB.bindBS {r : ReB} {k : Bool → Rho → Out} {D : Ends} {Q1 : Bool → Hp → Prop} (h : PostS X W Hf F (bindBS r k) D)
    (hk : ∀ a ρ1 H1 Hf1, Same Hf Hf1 → SI X.K Hf1 T' ρ1 F σ H1 → PostS X W Hf1 F (k a ρ1) D → Q1 a H1) : PostB X W Hf T' F σ r Q1 := by
  cases r with
  | ok o ρ => exact fun H1 Hf1 sm s => hk o ρ H1 Hf1 sm s (PostS.mono sm h)
  | exc e ρ => exact fun H' Hf' cls d sm s x => h σ H' Hf' cls d sm s x
  | stk => exact h
end
end Ev
namespace Ev
open PySem PySem.Spec L2
open PyProof.Rows hiding St

structure Good (X : Cx) (W : WX) (n : Nat) : Prop where
  nd : X.N.Nodup
  calm : X.calm = true
  tk : Takes X W
  po : PassesOwn (model X.prog X.w) X.A X.env X.xe
  hr : Room n X.A
/-- in a comprehension's block nothing is raised -/
abbrev W0 : WX := fun _ _ _ _ => False
theorem Good.blk {X : Cx} {W : WX} {n : Nat} (g : Good X W n) (s : Shared) (H : Hp) (scope : Scope) (cenv : Env) (fp : List Addr) : Good (X.blk s H scope cenv fp) W0 n :=
  ⟨g.nd, g.calm, takes0, .never, g.hr⟩
theorem Good.hu {X : Cx} {W : WX} {n : Nat} (g : Good X W n) : X.A.units + 65 < cLine := by have := g.hr.un; omega

section
variable {X : Cx} {W : WX} {e a b c : Expr} {f fa fb fc : Rho → Re} {pos : Pos} {n : Nat}

/-! ### constants and names -/
def cC (d : PyData) (ρ : Rho) : Re := .ok (.sh d) ρ
theorem ev_c {v : V} {d : PyData} (h : PE X e (tC v)) (r : ∀ H, Rp X.K H v d) : EvE X W e (cC d) :=
  pe_w h fun σ H Q ⟨Hf, T, ρ, F, s, h⟩ => h v H Hf (Same.refl _) (s.add (r _))
theorem ev_int {i : Int} {j} : EvE X W (.Constant (.int i) j pos) (cC (.int i)) := ev_c pe_int fun _ => .int i
theorem ev_bl {i : Bool} {j} : EvE X W (.Constant (.bool i) j pos) (cC (.bool i)) := ev_c pe_bl fun _ => .bl i
theorem ev_non {j} : EvE X W (.Constant .none j pos) (cC .none) := ev_c pe_non fun _ => .non
theorem ev_str {x : Str} {j} : EvE X W (.Constant (.str x) j pos) (cC (.str x)) := ev_c pe_str fun _ => .str x
/-- a module's constant -/
theorem ev_gint {x : Str} {i : Int} {t : Tok} (hg : Gl X x) (hm : X.mg x = some (.int i t)) (hd : (x == ("__debug__" : Str)) = false := by decide) : EvE X W (.Name x pos) (cC (.int i)) := ev_c (pe_glob (v := .int i) hg hm ⟨t, rfl⟩ hd) fun _ => .int i
theorem ev_gtup {x : Str} {a : Addr} {xs : List Str} (hg : Gl X x) (hm : X.mg x = some (.ref a)) (hs : ∀ H, SqT X.K H a (xs.map V.str)) (hn : xs ≠ []) (hd : (x == ("__debug__" : Str)) = false := by decide) : EvE X W (.Name x pos) (cC (.tuple (xs.map .str))) :=
  ev_c (pe_glob (v := .ref a) hg hm rfl hd) fun H => .tupK (hs H) hn

/-- a name: what is owned is shared from here on -/
def eV (i : Nat) (ρ : Rho) : Re := match ρ[i]? with
  | some (some o) => .ok (.sh (fz o)) (ρ.set i (some (.sh (fz o))))
  | _ => .stk
/-- a name's last use -/
def eM (i : Nat) (ρ : Rho) : Re := match ρ[i]? with
  | some (some o) => .ok o (ρ.set i none)
  | _ => .stk
theorem ev_var {i : Nat} (h : PE X e (tVar i)) : EvE X W e (eV i) := pe_w h fun σ H Q ⟨Hf, T, ρ, F, s, h⟩ => by
  unfold eV at h
  cases q : ρ[i]? with
  | none => rw [q] at h; exact h.elim
  | some x =>
    cases x with
    | none => rw [q] at h; exact h.elim
    | some o =>
      rw [q] at h
      obtain ⟨v, h1, s1, back⟩ := s.take q
      obtain ⟨Hf', sm, s2⟩ := s1.freeze
      refine ⟨v, h1, h v H Hf' sm ?_⟩
      have s3 := s2.add s2.rp
      obtain ⟨v', h1', _⟩ := id s3
      exact (SI.perm (T := (v, .sh (fz o)) :: (v, .sh (fz o)) :: T) (T' := (v, .sh (fz o)) :: (v, .sh (fz o)) :: T) s3 (.refl _)) |> fun z => by
        have := back (.sh (fz o)) Hf' H s2
        exact this.add s2.rp
theorem ev_mv {i : Nat} (h : PE X e (tVar i)) : EvE X W e (eM i) := pe_w h fun σ H Q ⟨Hf, T, ρ, F, s, h⟩ => by
  unfold eM at h
  cases q : ρ[i]? with
  | none => rw [q] at h; exact h.elim
  | some x =>
    cases x with
    | none => rw [q] at h; exact h.elim
    | some o =>
      rw [q] at h
      obtain ⟨v, h1, s1, back⟩ := s.take q
      exact ⟨v, h1, h v H Hf (Same.refl _) s1⟩

/-! ### two operands -/
def Op2 (K : PySem.W.Frag) (r : R2) (g : OV → OV → Option OV) : Prop :=
  ∀ (Hf : Hp) (its : Its) (F : Bs) (H : Hp) (x y : V) (a b c : OV) (Q : VK), SX K Hf ((y, b) :: (x, a) :: its) F H → g a b = some c →
    (∀ v H' Hf', Same Hf Hf' → SX K Hf' ((v, c) :: its) F H' → Q v H') → r x y H Q
def ofO (o : Option OV) (ρ : Rho) : Re := match o with
  | some c => .ok c ρ
  | none => .stk
def eBin (g : OV → OV → Option OV) (fa fb : Rho → Re) (ρ : Rho) : Re := bindE (fa ρ) fun a ρ1 => bindE (fb ρ1) fun b ρ2 => ofO (g a b) ρ2
theorem op_post {r : R2} {g : OV → OV → Option OV} (ho : Op2 X.K r g) {Hf : Hp} {T : Its} {ρ : Rho} {F : Bs} {σ : St} {H : Hp} {x y : V} {a b : OV} {Q : VK}
    (s : SI X.K Hf ((y, b) :: (x, a) :: T) ρ F σ H) (h : PostE X W Hf T F σ (ofO (g a b) ρ) Q) : r x y H Q := by
  cases q : g a b with
  | none => rw [q] at h; exact h.elim
  | some c =>
    rw [q] at h
    obtain ⟨its, hs, s⟩ := s.ex
    exact ho Hf (T ++ its) F H x y a b c Q s q fun v H' Hf' sm s' => h v H' Hf' sm ⟨its, hs, s'⟩
theorem ev_top {r : R2} {g : OV → OV → Option OV} (ho : Op2 X.K r g) (h : PE X e (tOp r (tE X W fa) (tE X W fb))) : EvE X W e (eBin g fa fb) := pe_w h fun σ H Q ⟨Hf, T, ρ, F, s, h⟩ => by
  refine ⟨Hf, T, ρ, F, s, PostE.bind h fun a ρ1 x H1 Hf1 sm s1 h1 => ⟨Hf1, (x, a) :: T, ρ1, F, s1, PostE.bind h1 fun b ρ2 y H2 Hf2 sm2 s2 h2 => ?_⟩⟩
  exact op_post ho s2 h2
theorem ev_op {op : Operator} {r : R2} {g : OV → OV → Option OV} (hr : OpR X (binaryOp op) r) (ho : Op2 X.K r g) (ha : EvE X W a fa) (hb : EvE X W b fb) : EvE X W (.BinOp a op b pos) (eBin g fa fb) := ev_top ho (pe_op hr ha hb)
theorem ec_op {op : CmpOp} {r : R2} {g : OV → OV → Option OV} (hr : OpR X (compareOp op) r) (ho : Op2 X.K r g) (ha : EvE X W a fa) (hb : EvE X W b fb) : EvC X W op a b (eBin g fa fb) := by
  have h : PC X op a b (tOp r (tE X W fa) (tE X W fb)) := ⟨fun pins s σ H Q I h => binT ha hb I h fun v u s2 x y H2 I2 rx ry q => hr pins s2 σ H2 x y v u Q I2 rx ry q⟩
  refine pc_w h fun σ H Q ⟨Hf, T, ρ, F, s, h⟩ => ?_
  refine ⟨Hf, T, ρ, F, s, PostE.bind h fun a ρ1 x H1 Hf1 sm s1 h1 => ⟨Hf1, (x, a) :: T, ρ1, F, s1, PostE.bind h1 fun b ρ2 y H2 Hf2 sm2 s2 h2 => ?_⟩⟩
  exact op_post ho s2 h2
/-- one operand -/
def Op1 (K : PySem.W.Frag) (r : V → Hp → VK → Prop) (g : OV → Option OV) : Prop :=
  ∀ (Hf : Hp) (its : Its) (F : Bs) (H : Hp) (x : V) (a c : OV) (Q : VK), SX K Hf ((x, a) :: its) F H → g a = some c →
    (∀ v H' Hf', Same Hf Hf' → SX K Hf' ((v, c) :: its) F H' → Q v H') → r x H Q
def eUn (g : OV → Option OV) (fa : Rho → Re) (ρ : Rho) : Re := bindE (fa ρ) fun a ρ1 => ofO (g a) ρ1
theorem op_post1 {r : V → Hp → VK → Prop} {g : OV → Option OV} (ho : Op1 X.K r g) {Hf : Hp} {T : Its} {ρ : Rho} {F : Bs} {σ : St} {H : Hp} {x : V} {a : OV} {Q : VK}
    (s : SI X.K Hf ((x, a) :: T) ρ F σ H) (h : PostE X W Hf T F σ (ofO (g a) ρ) Q) : r x H Q := by
  cases q : g a with
  | none => rw [q] at h; exact h.elim
  | some c =>
    rw [q] at h
    obtain ⟨its, hs, s⟩ := s.ex
    exact ho Hf (T ++ its) F H x a c Q s q fun v H' Hf' sm s' => h v H' Hf' sm ⟨its, hs, s'⟩
theorem ev_tun {r : V → Hp → VK → Prop} {g : OV → Option OV} (ho : Op1 X.K r g) (h : PE X e (tUn r (tE X W fa))) : EvE X W e (eUn g fa) := pe_w h fun σ H Q ⟨Hf, T, ρ, F, s, h⟩ =>
  ⟨Hf, T, ρ, F, s, PostE.bind h fun a ρ1 x H1 Hf1 sm s1 h1 => op_post1 ho s1 h1⟩
theorem ev_un {op : UnaryOp} {r : V → Hp → VK → Prop} {g : OV → Option OV} (hr : UnR X (unaryOp op) r) (ho : Op1 X.K r g) (ha : EvE X W a fa) : EvE X W (.UnaryOp op a pos) (eUn g fa) := ev_tun ho (pe_un hr ha)
end

/-! ### ints -/
def oI : OV → Option Int
  | .sh (.int i) => some i
  | _ => none
theorem oI_eq {a : OV} {i : Int} (h : oI a = some i) : a = .sh (.int i) := by
  unfold oI at h
  split at h
  · cases h; rfl
  · cases h
/-- C: what must hold; f: the answer -/
def gII (C : Int → Int → Bool) (f : Int → Int → PyData) (a b : OV) : Option OV := match oI a, oI b with
  | some i, some j => if C i j = true then some (.sh (f i j)) else none
  | _, _ => none
theorem rp_int {K : PySem.W.Frag} {H : Hp} {x : V} {i : Int} (h : Rp K H x (.int i)) : x = .int i := by cases h; rfl
theorem rp_bl {K : PySem.W.Frag} {H : Hp} {x : V} {i : Bool} (h : Rp K H x (.bool i)) : x = .bl i := by cases h; rfl
theorem rp_str {K : PySem.W.Frag} {H : Hp} {x : V} {i : Str} (h : Rp K H x (.str i)) : x = .str i := by cases h; rfl
theorem rp_non {K : PySem.W.Frag} {H : Hp} {x : V} (h : Rp K H x .none) : x = .non := by cases h; rfl
theorem op2_int {K : PySem.W.Frag} {r : R2} {C : Int → Int → Bool} {f : Int → Int → PyData} {fv : Int → Int → V} (hf : ∀ i j H, Rp K H (fv i j) (f i j))
    (hr : ∀ i j H Q, C i j = true → Q (fv i j) H → r (.int i) (.int j) H Q) : Op2 K r (gII C f) := by
  intro Hf its F H x y a b c Q s h q
  unfold gII at h
  split at h
  · rename_i i j h1 h2
    obtain rfl := oI_eq h1
    obtain rfl := oI_eq h2
    by_cases hC : C i j = true
    · rw [if_pos hC] at h; cases h
      have ey := rp_int s.rp
      have ex := rp_int s.drop.rp
      subst ex ey
      exact hr i j H Q hC (q _ _ Hf (Same.refl _) (s.drop.drop.add (hf i j _)))
    · rw [if_neg hC] at h; cases h
  · cases h
theorem op2_I0 {K : PySem.W.Frag} (g : Int → Int → Int) : Op2 K (rI0 fun i j => .int (g i j)) (gII (fun _ _ => true) fun i j => .int (g i j)) := op2_int (fun _ _ _ => .int _) fun i j H Q _ q => ⟨i, j, rfl, rfl, q⟩
theorem op2_B0 {K : PySem.W.Frag} (g : Int → Int → Bool) : Op2 K (rI0 fun i j => .bl (g i j)) (gII (fun _ _ => true) fun i j => .bool (g i j)) := op2_int (fun _ _ _ => .bl _) fun i j H Q _ q => ⟨i, j, rfl, rfl, q⟩
theorem op2_I {K : PySem.W.Frag} {C : Int → Int → Prop} {D : Int → Int → Bool} (g : Int → Int → Int) (hD : ∀ i j, D i j = true → C i j) : Op2 K (rI C fun i j => .int (g i j)) (gII D fun i j => .int (g i j)) := op2_int (fun _ _ _ => .int _) fun i j H Q d q => ⟨i, j, rfl, rfl, hD i j d, q⟩
end Ev
namespace Ev
open PySem PySem.Spec L2
open PyProof.Rows hiding St

section
variable {K : PySem.W.Frag} {Hf Hf' H H' : Hp} {its A B : Its} {F bs : Bs} {v w x y : V} {a b o : OV} {d : PyData} {p : Addr}
theorem SX.freeze2 (s : SX K Hf ((y, b) :: (x, a) :: its) F H) : ∃ Hf', Same Hf Hf' ∧ SX K Hf' ((y, .sh (fz b)) :: (x, .sh (fz a)) :: its) F H := by
  obtain ⟨H1, s1, h1⟩ := s.freeze
  obtain ⟨H2, s2, h2⟩ := (h1.perm (List.Perm.swap _ _ _)).freeze
  exact ⟨H2, s1.trans s2, h2.perm (List.Perm.swap _ _ _)⟩
theorem SX.mkTup {xs : List V} {ds : List PyData} (s : SX K Hf its F H) (r : RpAll K Hf xs ds) (hp : H p = none) : SX K (upd Hf p (.tup xs)) ((.ref p, .sh (.tuple ds)) :: its) F (upd H p (.tup xs)) ∧ Same Hf (upd Hf p (.tup xs)) := by
  obtain ⟨s', sm⟩ := s.new (u := .tup xs) hp
  exact ⟨s'.add (.tup upd_same (r.mono (.of sm))), sm⟩
theorem SX.mkLst {xs : List V} {ds : List PyData} (s : SX K Hf its F H) (r : RpAll K Hf xs ds) (hp : H p = none) : SX K Hf ((.ref p, .lst (ds.map .sh)) :: its) F (upd H p (.lst xs)) :=
  SX.newOwn (C := []) s hp fun bs h => by
    cases h
    exact .lst (OwnL.of_rp r)
end

section
variable {X : Cx} {W : WX} {e a b c : Expr} {f fa fb fc : Rho → Re} {pos : Pos} {n : Nat}
theorem OpR.or {f : Value → Value → Sem Value} {r r' : R2} (h : OpR X f r) (h' : OpR X f r') : OpR X f (fun x y H Q => r x y H Q ∨ r' x y H Q) :=
  fun pins s σ H x y v u Q I rx ry q => q.elim (h pins s σ H x y v u Q I rx ry) (h' pins s σ H x y v u Q I rx ry)
/-! ### + -/
def rCatR (K : PySem.W.Frag) : R2 := fun x y H Q => ∃ l b xs zs, x = .ref l ∧ y = .ref b ∧ SqL K H l xs ∧ SqL K H b zs ∧ xs.length + zs.length ≤ sizeLine ∧ ∀ p, H p = none → Q (.ref p) (upd H p (.lst (xs ++ zs)))
theorem op_catR : OpR X (binaryOp .Add) (rCatR X.K) := by
  intro pins s σ H x y v u Q I rx ry ⟨l, b, xs, zs, e1, e2, hH, hB, hz, q⟩
  subst e1 e2
  cases rx
  cases ry
  obtain ⟨its1, v1, ⟨⟨k1, d1, dat1, sl1⟩, n1, g1, c1, _, h1⟩, _⟩ := I.list hH
  obtain ⟨its2, v2, ⟨⟨k2, d2, dat2, sl2⟩, n2, g2, c2, _, h2⟩, _⟩ := I.list hB
  simp only at c1 h1 c2 h2
  subst c1 h1 c2 h2
  have l1 := v1.length
  have l2 := v2.length
  refine concat_meets ⟨_, g1, rfl⟩ ⟨_, g2, rfl⟩ noFill_list_add seq_list_add PySem.F.slot_list_add PySem.F.entry_list_add (PySem.F.args_list_add_2 _ _) (list_addW l b its1.toArray its2.toArray n1 n2 d1 d2 sl1 sl2 (by simp only [List.size_toArray]; omega)) ⟨g1, g2, ?_⟩
  rw [show its1.toArray ++ its2.toArray = (its1 ++ its2).toArray from by simp]
  exact ⟨.ref _, _, I.lnew (t' := s.toks) (v1.append v2) (by rw [List.length_append]; omega), rfl, q _ I.fresh⟩
def gAdd (a b : OV) : Option OV := match fz a, fz b with
  | .int i, .int j => some (.sh (.int (i + j)))
  | .str x, .str y => if x.length + y.length ≤ sizeLine then some (.sh (.str (x ++ y))) else none
  | .tuple xs, .tuple ys => if xs.length + ys.length ≤ sizeLine then some (.sh (.tuple (xs ++ ys))) else none
  | .list xs, .list ys => if xs.length + ys.length ≤ sizeLine then some (.lst ((xs ++ ys).map .sh)) else none
  | _, _ => none
abbrev rAddS : R2 := fun x y H Q => ∃ i j, x = .str i ∧ y = .str j ∧ i.length + j.length ≤ sizeLine ∧ Q (.str (i ++ j)) H
def rAdd (K : PySem.W.Frag) : R2 := fun x y H Q => rI0 (fun i j => .int (i + j)) x y H Q ∨ (rAddS x y H Q ∨ (rCatA K x y H Q ∨ rCatR K x y H Q))
theorem op_addAll : OpR X (binaryOp .Add) (rAdd X.K) := OpR.or op_add (OpR.or op_add_str (OpR.or op_catA op_catR))
theorem op2_add {K : PySem.W.Frag} : Op2 K (rAdd K) gAdd := by
  intro Hf its F H x y a b c Q s h q
  obtain ⟨Hf', sm, s'⟩ := s.freeze2
  have q' : ∀ v H' Hf2, Same Hf' Hf2 → SX K Hf2 ((v, c) :: its) F H' → Q v H' := fun v H' Hf2 z => q v H' Hf2 (sm.trans z)
  unfold gAdd at h
  generalize fz a = da at *
  generalize fz b = db at *
  have ry := s'.rp
  have rx := s'.drop.rp
  have s2 := s'.drop.drop
  split at h
  · cases h
    have e1 := rp_int rx
    have e2 := rp_int ry
    subst e1 e2
    exact .inl ⟨_, _, rfl, rfl, q' _ _ _ (Same.refl _) (s2.add (.int _))⟩
  · split at h
    · rename_i hz
      cases h
      have e1 := rp_str rx
      have e2 := rp_str ry
      subst e1 e2
      exact .inr (.inl ⟨_, _, rfl, rfl, hz, q' _ _ _ (Same.refl _) (s2.add (.str _))⟩)
    · cases h
  · split at h
    · rename_i hz
      cases h
      obtain ⟨p1, xs, rfl, t1, r1⟩ := rx.sqT
      obtain ⟨p2, ys, rfl, t2, r2⟩ := ry.sqT
      refine .inr (.inr (.inl ⟨p1, p2, xs, ys, rfl, rfl, s'.sub.sqT t1, s'.sub.sqT t2, by rw [r1.len, r2.len]; exact hz, fun e => ?_, fun _ e => ?_, fun e1 e2 p hp => ?_⟩))
      · subst e
        cases r1
        exact q' _ _ _ (Same.refl _) (s2.add ry)
      · subst e
        cases r2
        rw [List.append_nil] at q'
        exact q' _ _ _ (Same.refl _) (s2.add rx)
      · obtain ⟨s3, sm3⟩ := s2.mkTup (r1.append r2) hp
        exact q' _ _ _ sm3 s3
    · cases h
  · split at h
    · rename_i hz
      cases h
      obtain ⟨p1, xs, rfl, t1, r1⟩ := rx.sqL
      obtain ⟨p2, ys, rfl, t2, r2⟩ := ry.sqL
      exact .inr (.inr (.inr ⟨p1, p2, xs, ys, rfl, rfl, s'.sub.sqL t1, s'.sub.sqL t2, by rw [r1.len, r2.len]; exact hz, fun p hp => q' _ _ _ (Same.refl _) (s2.mkLst (r1.append r2) hp)⟩))
    · cases h
  · cases h
theorem ev_add (ha : EvE X W a fa) (hb : EvE X W b fb) : EvE X W (.BinOp a .Add b pos) (eBin gAdd fa fb) := ev_op op_addAll op2_add ha hb
theorem ev_sub (ha : EvE X W a fa) (hb : EvE X W b fb) : EvE X W (.BinOp a .Sub b pos) (eBin (gII (fun _ _ => true) fun i j => .int (i - j)) fa fb) := ev_op op_sub (op2_I0 fun i j => i - j) ha hb
/-! ### * -/
def mulOk (i j : Int) : Bool := decide (-(2 ^ 64) < i ∧ i < 2 ^ 64) || decide (-(2 ^ 64) < j ∧ j < 2 ^ 64) || decide (i.natAbs.log2 + j.natAbs.log2 < 1000000)
theorem op_mulAll : OpR X (binaryOp .Mult) (rI (fun i j => mulOk i j = true) fun i j => .int (i * j)) := by
  intro pins s σ H x y v u Q I rx ry h
  obtain ⟨i, j, rfl, rfl, hc, q⟩ := h
  unfold mulOk at hc
  rw [Bool.or_eq_true, Bool.or_eq_true] at hc
  rcases hc with (hc | hc) | hc
  · exact op_mul pins s σ H _ _ v u Q I rx ry ⟨i, j, rfl, rfl, .inl (of_decide_eq_true hc), q⟩
  · exact op_mul pins s σ H _ _ v u Q I rx ry ⟨i, j, rfl, rfl, .inr (of_decide_eq_true hc), q⟩
  · exact op_mulW pins s σ H _ _ v u Q I rx ry ⟨i, j, rfl, rfl, (show i.natAbs.log2 + j.natAbs.log2 < 1000000 from of_decide_eq_true hc), q⟩
theorem ev_mul (ha : EvE X W a fa) (hb : EvE X W b fb) : EvE X W (.BinOp a .Mult b pos) (eBin (gII mulOk fun i j => .int (i * j)) fa fb) := ev_op op_mulAll (op2_I (fun i j => i * j) fun _ _ h => h) ha hb
theorem ev_mod (ha : EvE X W a fa) (hb : EvE X W b fb) : EvE X W (.BinOp a .Mod b pos) (eBin (gII (fun _ j => decide (0 < j)) fun i j => .int (i % j)) fa fb) := ev_op op_mod (op2_I (fun i j => i % j) fun _ _ h => of_decide_eq_true h) ha hb
def divOk (_ j : Int) : Bool := decide (0 < j) && decide (j.natAbs.log2 < 9000)
theorem ev_fdiv (ha : EvE X W a fa) (hb : EvE X W b fb) : EvE X W (.BinOp a .FloorDiv b pos) (eBin (gII divOk fun i j => .int (i / j)) fa fb) := ev_op op_fdivW (op2_I (fun i j => i / j) fun i j h => by
  unfold divOk at h
  rw [Bool.and_eq_true] at h
  exact ⟨of_decide_eq_true h.1, of_decide_eq_true h.2⟩) ha hb
def powOk (i j : Int) : Bool := decide (0 ≤ j) && decide ((Builtin.Int.intBits i : Int) * j ≤ 2 ^ 27)
theorem op_powW : OpR X (binaryOp .Pow) (rI (fun i j => powOk i j = true) fun i j => .int (i ^ j.toNat)) := opI fun i j _ _ _ _ _ hc q => by
  unfold powOk at hc
  rw [Bool.and_eq_true] at hc
  exact PyProof.Rows.pow_int (of_decide_eq_true hc.1) (of_decide_eq_true hc.2) q
theorem ev_pow (ha : EvE X W a fa) (hb : EvE X W b fb) : EvE X W (.BinOp a .Pow b pos) (eBin (gII powOk fun i j => .int (i ^ j.toNat)) fa fb) := ev_op op_powW (op2_I (fun i j => i ^ j.toNat) fun _ _ h => h) ha hb
def shlOk (i j : Int) : Bool := decide (0 ≤ j ∧ j ≤ 1000000 ∧ i.natAbs < 2 ^ 64)
theorem ev_shl (ha : EvE X W a fa) (hb : EvE X W b fb) : EvE X W (.BinOp a .LShift b pos) (eBin (gII shlOk fun i j => .int (i * 2 ^ j.toNat)) fa fb) := ev_op op_shl (op2_I (fun i j => i * 2 ^ j.toNat) fun i j h => (show 0 ≤ j ∧ j ≤ 1000000 ∧ i.natAbs < 2 ^ 64 from of_decide_eq_true h)) ha hb
theorem ev_band (ha : EvE X W a fa) (hb : EvE X W b fb) : EvE X W (.BinOp a .BitAnd b pos) (eBin (gII (fun _ _ => true) fun i j => .int (Builtin.bitAnd i j)) fa fb) := ev_op op_and (op2_I0 Builtin.bitAnd) ha hb
theorem ev_bor (ha : EvE X W a fa) (hb : EvE X W b fb) : EvE X W (.BinOp a .BitOr b pos) (eBin (gII (fun _ _ => true) fun i j => .int (Builtin.bitOr i j)) fa fb) := ev_op op_or (op2_I0 Builtin.bitOr) ha hb
def gI (f : Int → PyData) (a : OV) : Option OV := match oI a with
  | some i => some (.sh (f i))
  | none => none
theorem op1_I {K : PySem.W.Frag} (g : Int → Int) : Op1 K (rU fun i => .int (g i)) (gI fun i => .int (g i)) := by
  intro Hf its F H x a c Q s h q
  unfold gI at h
  split at h
  · rename_i i hi
    cases h
    obtain rfl := oI_eq hi
    have e := rp_int s.rp
    subst e
    exact ⟨i, rfl, q _ _ _ (Same.refl _) (s.drop.add (.int _))⟩
  · cases h
theorem ev_neg (ha : EvE X W a fa) : EvE X W (.UnaryOp .USub a pos) (eUn (gI fun i => .int (-i)) fa) := ev_un un_neg (op1_I fun i => -i) ha
theorem ev_inv (ha : EvE X W a fa) : EvE X W (.UnaryOp .Invert a pos) (eUn (gI fun i => .int (Builtin.bitNot i)) fa) := ev_un un_inv (op1_I Builtin.bitNot) ha

/-! ### comparisons -/
open PySem.SeqAt in
def gOrd (fi : Int → Int → Bool) (fd : PyData → PyData → Bool) (a b : OV) : Option OV := match fz a, fz b with
  | .int i, .int j => some (.sh (.bool (fi i j)))
  | .tuple xs, .tuple ys => if PySem.W.alike (.tuple xs) (.tuple ys) = true ∧ SeqAt.shaped (.tuple xs) = true ∧ SeqAt.shaped (.tuple ys) = true then some (.sh (.bool (fd (.tuple xs) (.tuple ys)))) else none
  | _, _ => none
abbrev rOrdD (K : PySem.W.Frag) (fd : PyData → PyData → Bool) : R2 := fun x y H Q => ∃ d e, Dp K H x d ∧ Dp K H y e ∧ SeqAt.shaped d = true ∧ SeqAt.shaped e = true ∧ PySem.W.alike d e = true ∧ d ≠ .none ∧ Q (.bl (fd d e)) H
theorem op_ordD {op : CmpOp} {fd : PyData → PyData → Bool} (hu : X.A.units + 65 < cLine)
    (rule : ∀ (s : Shared) (a b : Value) (da db : PyData) (as bs : List Addr) (Q : Value → Shared → Prop) (E : Value → Shared → Prop), Reads s.heap a da as → Reads s.heap b db bs → PySem.W.alike da db = true → da ≠ .none → X.A.units + min da.depth db.depth < cLine → Q (.bool (fd da db)) s → wpAny (model X.prog X.w) X.A (compareOp op a b) Q E s) :
    OpR X (compareOp op) (rOrdD X.K fd) := by
  intro pins s σ H x y v u Q I rx ry h
  obtain ⟨d, e, hd, he, sd, se, al, hn, q⟩ := h
  obtain ⟨as, r1⟩ := Dp.reads I d x v hd rx
  obtain ⟨bs, r2⟩ := Dp.reads I e y u he ry
  exact rule s v u d e as bs _ _ r1 r2 al hn (SeqAt.room_of_shaped sd (by omega)) ⟨.bl _, H, I, rfl, q⟩
abbrev rOrd (K : PySem.W.Frag) (fi : Int → Int → Bool) (fd : PyData → PyData → Bool) : R2 := fun x y H Q => rI0 (fun i j => .bl (fi i j)) x y H Q ∨ rOrdD K fd x y H Q
theorem op2_ord {K : PySem.W.Frag} (fi : Int → Int → Bool) (fd : PyData → PyData → Bool) : Op2 K (rOrd K fi fd) (gOrd fi fd) := by
  intro Hf its F H x y a b c Q s h q
  have ry := s.rdH
  have rx := s.drop.rdH
  have s2 := s.drop.drop
  unfold gOrd at h
  generalize fz a = da at *
  generalize fz b = db at *
  split at h
  · cases h
    have e1 := rp_int rx
    have e2 := rp_int ry
    subst e1 e2
    exact .inl ⟨_, _, rfl, rfl, q _ _ _ (Same.refl _) (s2.add (.bl _))⟩
  · split at h
    · rename_i hc
      cases h
      exact .inr ⟨_, _, rx.dp (SeqAt.canLay_of_shaped hc.2.1), ry.dp (SeqAt.canLay_of_shaped hc.2.2), hc.2.1, hc.2.2, hc.1, (by intro z; cases z), q _ _ _ (Same.refl _) (s2.add (.bl _))⟩
    · cases h
  · cases h
abbrev gLt := gOrd (fun i j => decide (i < j)) PySem.W.dataLt
abbrev gGt := gOrd (fun i j => decide (j < i)) (fun d e => PySem.W.dataLt e d)
abbrev gLe := gOrd (fun i j => decide (i ≤ j)) (fun d e => !PySem.W.dataLt e d)
abbrev gGe := gOrd (fun i j => decide (j ≤ i)) (fun d e => !PySem.W.dataLt d e)
theorem opr_lt {n : Nat} (G : Good X W n) : OpR X (compareOp .Lt) (rOrd X.K (fun i j => decide (i < j)) PySem.W.dataLt) := OpR.or op_lt (op_ordD G.hu fun s a b da db as bs Q E r1 r2 al hn hu q => PySem.W.lt_data r1 r2 al hn hu q)
theorem opr_gt {n : Nat} (G : Good X W n) : OpR X (compareOp .Gt) (rOrd X.K (fun i j => decide (j < i)) (fun d e => PySem.W.dataLt e d)) := OpR.or op_gt (op_ordD G.hu fun s a b da db as bs Q E r1 r2 al hn hu q => PySem.W.gt_data r1 r2 al hn hu q)
theorem opr_le {n : Nat} (G : Good X W n) : OpR X (compareOp .LtE) (rOrd X.K (fun i j => decide (i ≤ j)) (fun d e => !PySem.W.dataLt e d)) := OpR.or op_le (op_ordD G.hu fun s a b da db as bs Q E r1 r2 al hn hu q => PySem.W.le_data r1 r2 al hn hu q)
theorem opr_ge {n : Nat} (G : Good X W n) : OpR X (compareOp .GtE) (rOrd X.K (fun i j => decide (j ≤ i)) (fun d e => !PySem.W.dataLt d e)) := OpR.or op_ge (op_ordD G.hu fun s a b da db as bs Q E r1 r2 al hn hu q => PySem.W.ge_data r1 r2 al hn hu q)
theorem ec_lt {n : Nat} (G : Good X W n) (ha : EvE X W a fa) (hb : EvE X W b fb) : EvC X W .Lt a b (eBin gLt fa fb) := ec_op (opr_lt G) (op2_ord _ _) ha hb
theorem ec_gt {n : Nat} (G : Good X W n) (ha : EvE X W a fa) (hb : EvE X W b fb) : EvC X W .Gt a b (eBin gGt fa fb) := ec_op (opr_gt G) (op2_ord _ _) ha hb
theorem ec_le {n : Nat} (G : Good X W n) (ha : EvE X W a fa) (hb : EvE X W b fb) : EvC X W .LtE a b (eBin gLe fa fb) := ec_op (opr_le G) (op2_ord _ _) ha hb
theorem ec_ge {n : Nat} (G : Good X W n) (ha : EvE X W a fa) (hb : EvE X W b fb) : EvC X W .GtE a b (eBin gGe fa fb) := ec_op (opr_ge G) (op2_ord _ _) ha hb
/-- == and != -/
def gEq (neg : Bool) (a b : OV) : Option OV := if SeqAt.shaped (fz a) = true ∧ SeqAt.shaped (fz b) = true then some (.sh (.bool (neg ^^ PyData.eqv (fz a) (fz b)))) else none
theorem op2_eq {K : PySem.W.Frag} : Op2 K (rEqD K) (gEq false) := by
  intro Hf its F H x y a b c Q s h q
  unfold gEq at h
  split at h
  · rename_i hc
    cases h
    exact ⟨_, _, s.drop.rdH.dp (SeqAt.canLay_of_shaped hc.1), s.rdH.dp (SeqAt.canLay_of_shaped hc.2), hc.1, hc.2, q _ _ _ (Same.refl _) (s.drop.drop.add (by rw [Bool.false_xor]; exact .bl _))⟩
  · cases h
theorem op2_ne {K : PySem.W.Frag} : Op2 K (rNeD K) (gEq true) := by
  intro Hf its F H x y a b c Q s h q
  unfold gEq at h
  split at h
  · rename_i hc
    cases h
    exact ⟨_, _, s.drop.rdH.dp (SeqAt.canLay_of_shaped hc.1), s.rdH.dp (SeqAt.canLay_of_shaped hc.2), hc.1, hc.2, q _ _ _ (Same.refl _) (s.drop.drop.add (by rw [Bool.true_xor]; exact .bl _))⟩
  · cases h
theorem opr_eq {n : Nat} (G : Good X W n) : OpR X (compareOp .Eq) (rEqD X.K) := op_eqD (by have := G.hu; omega)
theorem opr_ne {n : Nat} (G : Good X W n) : OpR X (compareOp .NotEq) (rNeD X.K) := op_neD (by have := G.hu; omega)
theorem ec_eq {n : Nat} (G : Good X W n) (ha : EvE X W a fa) (hb : EvE X W b fb) : EvC X W .Eq a b (eBin (gEq false) fa fb) := ec_op (opr_eq G) op2_eq ha hb
theorem ec_ne {n : Nat} (G : Good X W n) (ha : EvE X W a fa) (hb : EvE X W b fb) : EvC X W .NotEq a b (eBin (gEq true) fa fb) := ec_op (opr_ne G) op2_ne ha hb
/-- is None, is not None -/
def isNonO : OV → Bool
  | .sh .none => true
  | _ => false
def gIs (neg : Bool) (a : OV) : Option OV := some (.sh (.bool (neg ^^ isNonO a)))
theorem nonV {K : PySem.W.Frag} {Hf : Hp} {x : V} {a : OV} {bs : Bs} (h : Own K Hf x a bs) : decide (x = .non) = isNonO a := by
  cases h with
  | sh r => cases r <;> rfl
  | lst _ => rfl
  | dk _ _ _ => rfl
  | dt _ _ _ => rfl
theorem SX.own {K : PySem.W.Frag} {Hf H : Hp} {its : Its} {F : Bs} {x : V} {a : OV} (s : SX K Hf ((x, a) :: its) F H) : ∃ bs, Own K Hf x a bs := by
  obtain ⟨⟨bs, h, _⟩, _⟩ := s
  cases h with
  | cons h _ => exact ⟨_, h⟩
theorem ec_is {j pos'} (ha : EvE X W a fa) : EvC X W .Is a (.Constant .none j pos') (eUn (gIs false) fa) := pc_w (pc_isN ha) fun σ H Q ⟨Hf, T, ρ, F, s, h⟩ =>
  ⟨Hf, T, ρ, F, s, PostE.bind h fun o ρ1 x H1 Hf1 sm s1 h1 => by
    obtain ⟨its, hs, s2⟩ := s1.ex
    obtain ⟨bs, ho⟩ := SX.own (its := T ++ its) s2
    have e := nonV ho
    have h2 := h1 (.bl (decide (x = .non))) H1 Hf1 (Same.refl _)
    refine h2 ⟨its, hs, ?_⟩
    have := SX.drop (its := T ++ its) s2
    refine SX.add (its := T ++ its) this ?_
    rw [e, Bool.false_xor]; exact .bl _⟩
theorem ec_isnt {j pos'} (ha : EvE X W a fa) : EvC X W .IsNot a (.Constant .none j pos') (eUn (gIs true) fa) := pc_w (pc_notN ha) fun σ H Q ⟨Hf, T, ρ, F, s, h⟩ =>
  ⟨Hf, T, ρ, F, s, PostE.bind h fun o ρ1 x H1 Hf1 sm s1 h1 => by
    obtain ⟨its, hs, s2⟩ := s1.ex
    obtain ⟨bs, ho⟩ := SX.own (its := T ++ its) s2
    have e := nonV ho
    have h2 := h1 (.bl (!decide (x = .non))) H1 Hf1 (Same.refl _)
    refine h2 ⟨its, hs, ?_⟩
    have := SX.drop (its := T ++ its) s2
    refine SX.add (its := T ++ its) this ?_
    rw [e, Bool.true_xor]; exact .bl _⟩
end
end Ev
namespace Ev
open PySem PySem.Spec L2
open PyProof.Rows hiding St

section
variable {X : Cx} {W : WX} {e a b c : Expr} {es rest : List Expr} {f fa fb fc : Rho → Re} {ta tb : Rho → ReB} {fl : Rho → ReL} {pos : Pos} {n : Nat}
/-! ### tests -/
def toB (o : OV) (ρ : Rho) : ReB := match o with
  | .sh (.bool b) => .ok b ρ
  | _ => .stk
def eTest (f : Rho → Re) (ρ : Rho) : ReB := bindEB (f ρ) toB
theorem test_post {Hf : Hp} {T : Its} {ρ : Rho} {F : Bs} {σ : St} {H : Hp} {Q : Bool → Hp → Prop} (s : SI X.K Hf T ρ F σ H) (h : PostB X W Hf T F σ (eTest f ρ) Q) : tE X W f σ H fun x H1 => ∃ c, x = .bl c ∧ Q c H1 :=
  ⟨Hf, T, ρ, F, s, PostE.bindEB h fun o ρ1 x H1 Hf1 sm s1 h1 => by
    cases o with
    | sh d =>
      cases d with
      | bool k =>
        have e := rp_bl s1.rp
        subst e
        exact ⟨k, rfl, h1 H1 Hf1 (Same.refl _) s1.drop⟩
      | _ => exact h1.elim
    | _ => exact h1.elim⟩
theorem ee_cmp {op : CmpOp} (h : EvC X W op a b f) (h1 : behindInMarks op b = false := by first | exact nobehind _ (by decide) (by decide) | rfl) : EvE X W (.Compare a [op] [b] pos) f := pe_cmp h h1
theorem et_cmp {op : CmpOp} (h : EvC X W op a b f) (h1 : behindInMarks op b = false := by first | exact nobehind _ (by decide) (by decide) | rfl) : EvT X W (.Compare a [op] [b] pos) (eTest f) :=
  pt_w (pt_cmp h h1) fun σ H Q ⟨Hf, T, ρ, F, s, h⟩ => test_post s h
theorem et_val (h : EvE X W e f) (he : ∀ whole, isTrue e X.env whole = (do let v ← whole; standAt e.pos; holding [v] (truthy v)) := by intro _; rfl) : EvT X W e (eTest f) :=
  pt_w (pt_val h he) fun σ H Q ⟨Hf, T, ρ, F, s, h⟩ => test_post s h
def bNot (ta : Rho → ReB) (ρ : Rho) : ReB := bindBB (ta ρ) fun b ρ1 => .ok (!b) ρ1
theorem et_not (h : EvT X W a ta) : EvT X W (.UnaryOp .Not a pos) (bNot ta) := pt_w (pt_not h) fun σ H Q ⟨Hf, T, ρ, F, s, h⟩ =>
  ⟨Hf, T, ρ, F, s, PostB.bindBB h fun b ρ1 H1 Hf1 sm s1 h1 => h1 H1 Hf1 (Same.refl _) s1⟩
def EvW (X : Cx) (W : WX) (e : Expr) (f : Rho → ReB) : Prop := PW X e (tT X W f)
theorem et_w (h : EvW X W e ta) : EvT X W e ta := PW.pt h
theorem pw_w {X : Cx} {e : Expr} {t t' : TT} (h : PW X e t) (hw : ∀ σ H Q, t' σ H Q → t σ H Q) : PW X e t' := ⟨fun wh pins s σ H Q I h' => h.run wh pins s σ H Q I (hw σ H Q h')⟩
def bAnd (ta tb : Rho → ReB) (ρ : Rho) : ReB := bindBB (ta ρ) fun b ρ1 => if b = true then tb ρ1 else .ok false ρ1
def bOr (ta tb : Rho → ReB) (ρ : Rho) : ReB := bindBB (ta ρ) fun b ρ1 => if b = true then .ok true ρ1 else tb ρ1
theorem ew_and1 (h : EvT X W a ta) : EvW X W (.BoolOp .And [a] pos) ta := pw_and1 h
theorem ew_or1 (h : EvT X W a ta) : EvW X W (.BoolOp .Or [a] pos) ta := pw_or1 h
theorem ew_and (h : EvT X W a ta) (h2 : EvW X W (.BoolOp .And (b :: rest) pos) tb) : EvW X W (.BoolOp .And (a :: b :: rest) pos) (bAnd ta tb) := pw_w (pw_and h h2) fun σ H Q ⟨Hf, T, ρ, F, s, h⟩ =>
  ⟨Hf, T, ρ, F, s, PostB.bindBB h fun b ρ1 H1 Hf1 sm s1 h1 => by
    cases b with
    | true => rw [if_pos rfl]; exact ⟨Hf1, T, ρ1, F, s1, h1⟩
    | false => rw [if_neg Bool.false_ne_true]; exact h1 H1 Hf1 (Same.refl _) s1⟩
theorem ew_or (h : EvT X W a ta) (h2 : EvW X W (.BoolOp .Or (b :: rest) pos) tb) : EvW X W (.BoolOp .Or (a :: b :: rest) pos) (bOr ta tb) := pw_w (pw_or h h2) fun σ H Q ⟨Hf, T, ρ, F, s, h⟩ =>
  ⟨Hf, T, ρ, F, s, PostB.bindBB h fun b ρ1 H1 Hf1 sm s1 h1 => by
    cases b with
    | true => rw [if_pos rfl]; exact h1 H1 Hf1 (Same.refl _) s1
    | false => rw [if_neg Bool.false_ne_true]; exact ⟨Hf1, T, ρ1, F, s1, h1⟩⟩
/-! .. as values -/
def gNot (a : OV) : Option OV := match a with
  | .sh (.bool b) => some (.sh (.bool (!b)))
  | _ => none
theorem ev_not (h : EvE X W a fa) : EvE X W (.UnaryOp .Not a pos) (eUn gNot fa) := pe_w (pe_not h) fun σ H Q ⟨Hf, T, ρ, F, s, h⟩ =>
  ⟨Hf, T, ρ, F, s, PostE.bind h fun o ρ1 x H1 Hf1 sm s1 h1 => by
    cases o with
    | sh d =>
      cases d with
      | bool k =>
        have e := rp_bl s1.rp
        subst e
        exact ⟨k, rfl, h1 _ H1 Hf1 (Same.refl _) (s1.drop.add (.bl _))⟩
      | _ => exact h1.elim
    | _ => exact h1.elim⟩
def eAnd (fa fb : Rho → Re) (ρ : Rho) : Re := bindE (fa ρ) fun o ρ1 => match o with
  | .sh (.bool true) => fb ρ1
  | .sh (.bool false) => .ok (.sh (.bool false)) ρ1
  | _ => .stk
def eOr (fa fb : Rho → Re) (ρ : Rho) : Re := bindE (fa ρ) fun o ρ1 => match o with
  | .sh (.bool true) => .ok (.sh (.bool true)) ρ1
  | .sh (.bool false) => fb ρ1
  | _ => .stk
theorem ev_one {op} (h : EvE X W a f) : EvE X W (.BoolOp op [a] pos) f := pe_one h
theorem ev_and (h : EvE X W a fa) (h2 : EvE X W (.BoolOp .And (b :: rest) pos) fb) : EvE X W (.BoolOp .And (a :: b :: rest) pos) (eAnd fa fb) := pe_w (pe_and h h2) fun σ H Q ⟨Hf, T, ρ, F, s, h⟩ =>
  ⟨Hf, T, ρ, F, s, PostE.bind h fun o ρ1 x H1 Hf1 sm s1 h1 => by
    cases o with
    | sh d =>
      cases d with
      | bool k =>
        have e := rp_bl s1.rp
        subst e
        cases k with
        | true => exact ⟨true, rfl, by rw [if_pos rfl]; exact ⟨Hf1, T, ρ1, F, s1.drop, h1⟩⟩
        | false => exact ⟨false, rfl, by rw [if_neg Bool.false_ne_true]; exact h1 _ H1 Hf1 (Same.refl _) s1⟩
      | _ => exact h1.elim
    | _ => exact h1.elim⟩
theorem ev_or (h : EvE X W a fa) (h2 : EvE X W (.BoolOp .Or (b :: rest) pos) fb) : EvE X W (.BoolOp .Or (a :: b :: rest) pos) (eOr fa fb) := pe_w (pe_or h h2) fun σ H Q ⟨Hf, T, ρ, F, s, h⟩ =>
  ⟨Hf, T, ρ, F, s, PostE.bind h fun o ρ1 x H1 Hf1 sm s1 h1 => by
    cases o with
    | sh d =>
      cases d with
      | bool k =>
        have e := rp_bl s1.rp
        subst e
        cases k with
        | true => exact ⟨true, rfl, by rw [if_pos rfl]; exact h1 _ H1 Hf1 (Same.refl _) s1⟩
        | false => exact ⟨false, rfl, by rw [if_neg Bool.false_ne_true]; exact ⟨Hf1, T, ρ1, F, s1.drop, h1⟩⟩
      | _ => exact h1.elim
    | _ => exact h1.elim⟩
def eIf (tc : Rho → ReB) (fa fb : Rho → Re) (ρ : Rho) : Re := bindB (tc ρ) fun k ρ1 => if k = true then fa ρ1 else fb ρ1
theorem ev_if {tc : Rho → ReB} (hc : EvT X W c tc) (ha : EvE X W a fa) (hb : EvE X W b fb) : EvE X W (.IfExp c a b pos) (eIf tc fa fb) := pe_w (pe_ifExp hc ha hb) fun σ H Q ⟨Hf, T, ρ, F, s, h⟩ =>
  ⟨Hf, T, ρ, F, s, PostB.bind h fun k ρ1 H1 Hf1 sm s1 h1 => by
    cases k with
    | true => rw [if_pos rfl]; exact ⟨Hf1, T, ρ1, F, s1, h1⟩
    | false => rw [if_neg Bool.false_ne_true]; exact ⟨Hf1, T, ρ1, F, s1, h1⟩⟩
/-! ### chains -/
def eChain (g g' : OV → OV → Option OV) (fa fb fc : Rho → Re) (ρ : Rho) : Re := bindE (fa ρ) fun x ρ1 => bindE (fb ρ1) fun y ρ2 => match g x y with
  | some (.sh (.bool true)) => bindE (fc ρ2) fun z ρ3 => ofO (g' y z) ρ3
  | some (.sh (.bool false)) => .ok (.sh (.bool false)) ρ2
  | _ => .stk
/-- what is asked of the first link: its answer leaves the operands -/
theorem chain_post {r r' : R2} {g g' : OV → OV → Option OV} (ho : Op2 X.K r g) (ho' : Op2 X.K r' g') {σ : St} {H : Hp} {Q : VK} {Hf : Hp} {T : Its} {ρ : Rho} {F : Bs} (hg : ∀ x y o, g x y = some o → ∃ d e, x = .sh d ∧ y = .sh e)
    (s : SI X.K Hf T ρ F σ H) (h : PostE X W Hf T F σ (eChain g g' fa fb fc ρ) Q) : tChain r r' (tE X W fa) (tE X W fb) (tE X W fc) σ H Q := by
  refine ⟨Hf, T, ρ, F, s, PostE.bind h fun x ρ1 v H1 Hf1 sm1 s1 h1 => ⟨Hf1, (v, x) :: T, ρ1, F, s1, PostE.bind h1 fun y ρ2 u H2 Hf2 sm2 s2 h2 => ?_⟩⟩
  cases q : g x y with
  | none => simp only [q] at h2; exact h2.elim
  | some o =>
    obtain ⟨d, e, rfl, rfl⟩ := hg x y o q
    have ry := s2.rp
    have rx := s2.drop.rp
    obtain ⟨its, hs, s3⟩ := s2.ex
    refine ho Hf2 (T ++ its) F H2 v u _ _ o _ s3 q fun z H3 Hf3 sm3 s4 => ?_
    have s5 : SI X.K Hf3 ((z, o) :: T) ρ2 F σ H3 := ⟨its, hs, s4⟩
    cases o with
    | sh dd =>
      cases dd with
      | bool k =>
        have ez := rp_bl s5.rp
        subst ez
        simp only [q] at h2
        cases k with
        | true =>
          refine ⟨true, rfl, ?_⟩
          rw [if_pos rfl]
          refine ⟨Hf3, (u, .sh e) :: T, ρ2, F, s5.drop.add (ry.mono (.of sm3)), PostE.bind (PostE.mono sm3 h2) fun z ρ3 w H4 Hf4 sm4 s6 h6 => ?_⟩
          exact op_post ho' s6 h6
        | false =>
          refine ⟨false, rfl, ?_⟩
          rw [if_neg Bool.false_ne_true]
          exact h2 _ H3 Hf3 sm3 s5
      | _ => simp only [q] at h2; exact h2.elim
    | _ => simp only [q] at h2; exact h2.elim
theorem gOrd_sh {fi : Int → Int → Bool} {fd : PyData → PyData → Bool} : ∀ x y o, gOrd fi fd x y = some o → (∃ d, x = .sh d) ∧ ∃ e, y = .sh e := by
  intro x y o h
  unfold gOrd at h
  constructor
  · cases x with
    | sh d => exact ⟨d, rfl⟩
    | _ => simp [fz] at h
  · cases y with
    | sh d => exact ⟨d, rfl⟩
    | _ => simp [fz] at h
theorem gOrd_sh2 {fi : Int → Int → Bool} {fd : PyData → PyData → Bool} : ∀ x y o, gOrd fi fd x y = some o → ∃ d e, x = .sh d ∧ y = .sh e := fun x y o h => by
  obtain ⟨⟨d, h1⟩, e, h2⟩ := gOrd_sh x y o h
  exact ⟨d, e, h1, h2⟩
theorem ev_chain {op op' : CmpOp} {r r' : R2} {g g' : OV → OV → Option OV} (hr : OpR X (compareOp op) r) (hr' : OpR X (compareOp op') r') (ho : Op2 X.K r g) (ho' : Op2 X.K r' g') (hg : ∀ x y o, g x y = some o → ∃ d e, x = .sh d ∧ y = .sh e)
    (ha : EvE X W a fa) (hb : EvE X W b fb) (hc : EvE X W c fc) (hm : lastMarks [op, op'] [b, c] = false := by with_unfolding_all rfl) : EvE X W (.Compare a [op, op'] [b, c] pos) (eChain g g' fa fb fc) :=
  pe_w (pe_chain hr hr' ha hb hc hm) fun σ H Q ⟨Hf, T, ρ, F, s, h⟩ => chain_post ho ho' hg s h
theorem et_chain {op op' : CmpOp} {r r' : R2} {g g' : OV → OV → Option OV} (hr : OpR X (compareOp op) r) (hr' : OpR X (compareOp op') r') (ho : Op2 X.K r g) (ho' : Op2 X.K r' g') (hg : ∀ x y o, g x y = some o → ∃ d e, x = .sh d ∧ y = .sh e)
    (ha : EvE X W a fa) (hb : EvE X W b fb) (hc : EvE X W c fc) (hm : lastMarks [op, op'] [b, c] = false := by with_unfolding_all rfl) : EvT X W (.Compare a [op, op'] [b, c] pos) (eTest (eChain g g' fa fb fc)) :=
  pt_w (pt_chain hr hr' ha hb hc hm) fun σ H Q ⟨Hf, T, ρ, F, s, h⟩ => by
    have z := test_post (f := eChain g g' fa fb fc) s h
    obtain ⟨Hf', T', ρ', F', s', h'⟩ := z
    exact chain_post ho ho' hg s' h'
/-- a <= b < c, a <= b <= c -/
theorem ev_lele (G : Good X W n) (ha : EvE X W a fa) (hb : EvE X W b fb) (hc : EvE X W c fc) (hm : lastMarks [.LtE, .LtE] [b, c] = false := by with_unfolding_all rfl) : EvE X W (.Compare a [.LtE, .LtE] [b, c] pos) (eChain gLe gLe fa fb fc) := ev_chain (opr_le G) (opr_le G) (op2_ord _ _) (op2_ord _ _) gOrd_sh2 ha hb hc hm
theorem ev_lelt (G : Good X W n) (ha : EvE X W a fa) (hb : EvE X W b fb) (hc : EvE X W c fc) (hm : lastMarks [.LtE, .Lt] [b, c] = false := by with_unfolding_all rfl) : EvE X W (.Compare a [.LtE, .Lt] [b, c] pos) (eChain gLe gLt fa fb fc) := ev_chain (opr_le G) (opr_lt G) (op2_ord _ _) (op2_ord _ _) gOrd_sh2 ha hb hc hm
theorem et_lele (G : Good X W n) (ha : EvE X W a fa) (hb : EvE X W b fb) (hc : EvE X W c fc) (hm : lastMarks [.LtE, .LtE] [b, c] = false := by with_unfolding_all rfl) : EvT X W (.Compare a [.LtE, .LtE] [b, c] pos) (eTest (eChain gLe gLe fa fb fc)) := et_chain (opr_le G) (opr_le G) (op2_ord _ _) (op2_ord _ _) gOrd_sh2 ha hb hc hm
theorem et_lelt (G : Good X W n) (ha : EvE X W a fa) (hb : EvE X W b fb) (hc : EvE X W c fc) (hm : lastMarks [.LtE, .Lt] [b, c] = false := by with_unfolding_all rfl) : EvT X W (.Compare a [.LtE, .Lt] [b, c] pos) (eTest (eChain gLe gLt fa fb fc)) := et_chain (opr_le G) (opr_lt G) (op2_ord _ _) (op2_ord _ _) gOrd_sh2 ha hb hc hm

/-! ### lists of arguments -/
def lNil (ρ : Rho) : ReL := .ok [] ρ
def lCons (f : Rho → Re) (g : Rho → ReL) (ρ : Rho) : ReL := bindEL (f ρ) fun o ρ1 => bindLL (g ρ1) fun os ρ2 => .ok (o :: os) ρ2
theorem el_nil : EvL X W [] lNil := pa_w pa_nil fun σ H Q ⟨Hf, T, ρ, F, s, h⟩ => h [] H Hf rfl (Same.refl _) s
theorem el_cons (he : EvE X W e f) (hr : EvL X W es fl) (hs : starEach (e :: es) X.env = (false, eval e X.env) :: starEach es X.env := by rfl) : EvL X W (e :: es) (lCons f fl) := pa_w (pa_cons he hr hs) fun σ H Q ⟨Hf, T, ρ, F, s, h⟩ =>
  ⟨Hf, T, ρ, F, s, PostE.bindEL h fun o ρ1 v H1 Hf1 sm s1 h1 => ⟨Hf1, (v, o) :: T, ρ1, F, s1, PostL.bindLL h1 fun os ρ2 vs H2 Hf2 l sm2 s2 h2 =>
    h2 (v :: vs) H2 Hf2 (by simp [l]) (Same.refl _) (s2.perm (by simp only [List.zip_cons_cons, List.cons_append]; exact List.perm_middle))⟩⟩
section
variable {K : PySem.W.Frag} {Hf H : Hp} {its : Its} {F : Bs}
theorem SX.freezeAll : ∀ (vs : List V) (os : List OV) (Hf : Hp), vs.length = os.length → SX K Hf (vs.zip os ++ its) F H → ∃ Hf', Same Hf Hf' ∧ RpAll K Hf' vs (os.map fz) ∧ SX K Hf' its F H
  | [], [], Hf, _, s => ⟨Hf, Same.refl _, .nil, s⟩
  | v :: vs, o :: os, Hf, l, s => by
    obtain ⟨H1, sm1, s1⟩ := SX.freeze (its := vs.zip os ++ its) s
    obtain ⟨H2, sm2, r, s2⟩ := SX.freezeAll vs os H1 (by simpa using l) s1.drop
    exact ⟨H2, sm1.trans sm2, .cons (s1.rp.mono (.of sm2)) r, s2⟩
theorem SI.freezeAll {vs : List V} {os : List OV} {T : Its} {ρ : Rho} {σ : St} (l : vs.length = os.length) (s : SI K Hf (vs.zip os ++ T) ρ F σ H) : ∃ Hf', Same Hf Hf' ∧ RpAll K Hf' vs (os.map fz) ∧ SI K Hf' T ρ F σ H := by
  obtain ⟨its, hs, s⟩ := s.ex
  rw [List.append_assoc] at s
  obtain ⟨Hf', sm, r, s'⟩ := SX.freezeAll vs os Hf l s
  exact ⟨Hf', sm, r, its, hs, s'⟩
end
/-! ### displays -/
def eTup (fl : Rho → ReL) (ρ : Rho) : Re := bindL (fl ρ) fun os ρ1 => if os.length ≤ sizeLine then .ok (.sh (.tuple (os.map fz))) ρ1 else .stk
def eLst (fl : Rho → ReL) (ρ : Rho) : Re := bindL (fl ρ) fun os ρ1 => if os.length ≤ sizeLine then .ok (.lst os) ρ1 else .stk
theorem ev_tup {x1} (h : EvL X W es fl) : EvE X W (.Tuple es x1 pos) (eTup fl) := pe_w (pe_tup h) fun σ H Q ⟨Hf, T, ρ, F, s, h⟩ =>
  ⟨Hf, T, ρ, F, s, PostL.bind h fun os ρ1 vs H1 Hf1 l sm s1 h1 => by
    by_cases hz : os.length ≤ sizeLine
    · rw [if_pos hz] at h1
      refine ⟨by rw [l]; exact hz, fun p hp => ?_⟩
      obtain ⟨Hf2, sm2, r, s2⟩ := s1.freezeAll l
      obtain ⟨its, hs, s3⟩ := s2.ex
      obtain ⟨s4, sm3⟩ := s3.mkTup r hp
      exact h1 _ _ _ (sm2.trans sm3) ⟨its, hs, s4⟩
    · rw [if_neg hz] at h1; exact h1.elim⟩
theorem ev_lst (h : EvL X W es fl) : EvE X W (.List es pos) (eLst fl) := pe_w (pe_lst h) fun σ H Q ⟨Hf, T, ρ, F, s, h⟩ =>
  ⟨Hf, T, ρ, F, s, PostL.bind h fun os ρ1 vs H1 Hf1 l sm s1 h1 => by
    by_cases hz : os.length ≤ sizeLine
    · rw [if_pos hz] at h1
      refine ⟨by rw [l]; exact hz, fun p hp => ?_⟩
      obtain ⟨its, hs, s3⟩ := s1.ex
      rw [List.append_assoc] at s3
      have s4 := s3.newOwn (u := .lst vs) (o := .lst os) hp fun bs hb => .lst (OwnI.lst l hb)
      exact h1 _ _ _ (Same.refl _) ⟨its, hs, s4⟩
    · rw [if_neg hz] at h1; exact h1.elim⟩
end
end Ev
namespace Ev
open PySem PySem.Spec L2
open PyProof.Rows hiding St

/-! ### defs -/
def PostP (K : PySem.W.Frag) (mg : Str → Option Value) (Hf : Hp) (F : Bs) (r : Rv) (Q : VK) (E : XK) : Prop :=
  match r with
  | .ok o => ∀ v H' Hf', Same Hf Hf' → SX K Hf' [(v, o)] F H' → Q v H'
  | .exc e => ∀ H' Hf' cls d, Same Hf Hf' → SX K Hf' [] F H' → ExnIs mg K Hf' H' e cls d → E cls d H'
  | .stk => False
/-- the promise of a def that computes g of its arguments' data -/
def spP (K : PySem.W.Frag) (mg : Str → Option Value) (n : Nat) (g : List PyData → Rv) : Sp := fun vs H Q E =>
  ∃ Hf ds F, vs.length = n ∧ RpAll K Hf vs ds ∧ SX K Hf [] F H ∧ PostP K mg Hf F (g ds) Q E
/-- x is a def of the module that computes g -/
structure FnT (P : Program) (w : World) (K : PySem.W.Frag) (mg : Str → Option Value) (base : Heap) (x : Str) (k n : Nat) (g : List PyData → Rv) : Prop where
  ex : ∃ (f : Addr) (fd : FuncData) (ps : List Str), mg x = some (.ref f) ∧ PySem.W.keepIn K (.ref f) = true ∧ Binds K fd ps [] ∧ FnOk P w K mg base (L2.CX P w) k f fd ps (spP K mg n g)

def ofRv (r : Rv) (ρ : Rho) : Re := match r with
  | .ok o => .ok o ρ
  | .exc e => .exc e ρ
  | .stk => .stk
def eCall (g : List PyData → Rv) (fl : Rho → ReL) (ρ : Rho) : Re := bindL (fl ρ) fun os ρ1 => ofRv (g (os.map fz)) ρ1
section
variable {X : Cx} {W : WX} {e a b c : Expr} {es rest : List Expr} {f fa fb fc : Rho → Re} {ta tb : Rho → ReB} {fl : Rho → ReL} {p pos : Pos} {n m k : Nat} {x : Str} {g : List PyData → Rv}
theorem call_post {Hf : Hp} {T : Its} {ρ : Rho} {F : Bs} {σ : St} {H : Hp} {Q : VK} {vs : List V} {os : List OV} (hn : os.length = n) (l : vs.length = os.length) (s : SI X.K Hf (vs.zip os ++ T) ρ F σ H) (h : PostE X W Hf T F σ (ofRv (g (os.map fz)) ρ) Q) :
    spP X.K X.mg n g vs H Q (WE W σ) := by
  obtain ⟨Hf1, sm, r, s1⟩ := s.freezeAll l
  obtain ⟨bs, s2, back⟩ := SI.framed (A := []) (B := T) s1
  refine ⟨Hf1, os.map fz, bs ++ F, by rw [l, hn], r, s2, ?_⟩
  cases q : g (os.map fz) with
  | ok o =>
    rw [q] at h
    exact fun v H' Hf' sm' s' => h v H' Hf' (sm.trans sm') (back Hf' H' [(v, o)] sm' s')
  | exc e =>
    rw [q] at h
    exact fun H' Hf' cls d sm' s' x => h H' Hf' cls d (sm.trans sm') (back Hf' H' [] sm' s').dropT x
  | stk => rw [q] at h; exact h
/-- f(e, ..) -/
theorem ev_call (G : Good X W m) (Fn : FnT X.prog X.w X.K X.mg X.base x k n g) (hk : k ≤ m) (hg : Gl X x) (hl : EvL X W (e :: es) fl) (hn : (e :: es).length = n := by rfl) (hdb : (x == ("__debug__" : Str)) = false := by decide)
    (he : starEach (e :: es) X.env = (false, eval e X.env) :: starEach es X.env := by rfl) (hpl : (backTo pos (starEach es X.env)).any (·.1) = false := by rfl)
    (hfl : ∀ ρ os ρ', fl ρ = .ok os ρ' → os.length = (e :: es).length) : EvE X W (.Call (.Name x p) (e :: es) [] pos) (eCall g fl) := by
  obtain ⟨f, fd, ps, hm, kp, hb, F⟩ := Fn.ex
  refine pe_w (pe_callSD F (G.hr.mono hk) hg hm kp hb .nil (fun σ => passAt G.tk σ) hl hdb he hpl) fun σ H Q ⟨Hf, T, ρ, F, s, h⟩ => ?_
  refine ⟨Hf, T, ρ, F, s, ?_⟩
  unfold eCall at h
  cases q : fl ρ with
  | ok os ρ1 =>
    rw [q] at h
    intro vs H1 Hf1 l sm s1
    have := call_post (Q := Q) (by rw [hfl ρ os ρ1 q, hn]) l s1 (PostE.mono sm h)
    simpa using this
  | exc e ρ1 => rw [q] at h; exact h
  | stk => rw [q] at h; exact h
theorem ll_nil : ∀ ρ os ρ', lNil ρ = .ok os ρ' → os.length = 0 := fun ρ os ρ' h => by unfold lNil at h; cases h; rfl
theorem ll_cons {k : Nat} (h : ∀ ρ os ρ', fl ρ = .ok os ρ' → os.length = k) : ∀ ρ os ρ', lCons f fl ρ = .ok os ρ' → os.length = k + 1 := fun ρ os ρ' q => by
  unfold lCons bindEL at q
  cases q1 : f ρ with
  | ok o ρ1 =>
    simp only [q1, bindLL] at q
    cases q2 : fl ρ1 with
    | ok os2 ρ2 =>
      simp only [q2] at q
      cases q
      simp [h _ _ _ q2]
    | exc e ρ2 => simp only [q2] at q; cases q
    | stk => simp only [q2] at q; cases q
  | exc e ρ1 => simp only [q1] at q; cases q
  | stk => simp only [q1] at q; cases q

/-- a def's body at its arguments -/
def runP (m : Nat) (body : Rho → Out) (ds : List PyData) : Rv := match body (ds.map (fun d => some (.sh d)) ++ List.replicate (m - ds.length) none) with
  | .next _ => .ok (.sh .none)
  | .ret o _ => .ok o
  | .exc e _ => .exc e
  | _ => .stk
theorem slots_start : ∀ {vs : List V} {ds : List PyData} (k : Nat), vs.length = ds.length → Slots (vs.map some ++ List.replicate k none) (ds.map (fun d => some (.sh d)) ++ List.replicate k none) (vs.zip (ds.map .sh))
  | [], [], k, _ => by
    induction k with
    | zero => exact .nil
    | succ k ih => exact .no ih
  | v :: vs, d :: ds, k, l => .yes (slots_start k (by simpa using l))
theorem own_args {K : PySem.W.Frag} {Hf : Hp} : ∀ {vs : List V} {ds : List PyData}, RpAll K Hf vs ds → OwnI K Hf (vs.zip (ds.map .sh)) []
  | _, _, .nil => .nil
  | _, _, .cons h r => OwnI.cons (b1 := []) (b2 := []) (.sh h) (own_args r)
theorem SX.addAll {K : PySem.W.Frag} {Hf H : Hp} {F : Bs} {vs : List V} {ds : List PyData} (s : SX K Hf [] F H) (r : RpAll K Hf vs ds) : SX K Hf (vs.zip (ds.map .sh)) F H := by
  obtain ⟨⟨bs, h, n, a⟩, e⟩ := s
  cases h
  exact ⟨⟨[], own_args r, n, a⟩, e⟩
section
variable {P : Program} {w : World} {K : PySem.W.Frag} {mg : Str → Option Value} {base : Heap}
theorem fnT_of {qual : Str} {st : Stmt} {f : Addr} {fd : FuncData} {N ps : List Str} {k n : Nat} {body : Rho → Out} (F : Fun K x qual st f fd) (S : FnScope N ps (defScope st)) (hm : mg x = some (.ref f)) (hb : Binds K fd ps []) (hn : ps.length = n)
    (hbody : ∀ (cdv : Value) (A : Around) (outer : List Env) (s : Shared) (H : Hp) (E : XK), Good (cxOf (L2.CX P w) P w K mg base N qual (defScope st) f cdv A outer s H E) (fun cls d _ H => E cls d H) k →
      EvB (cxOf (L2.CX P w) P w K mg base N qual (defScope st) f cdv A outer s H E) (fun cls d _ H => E cls d H) (defBody st) body) :
    FnT P w K mg base x (k + 1) n (runP N.length body) := by
  refine ⟨f, fd, ps, hm, F.kp, hb, F.okX S (fun vs H Q E h => ?_) fun cdv A outer s H vs Q E hr h => ?_⟩
  · obtain ⟨Hf, ds, Fr, l, _⟩ := h
    rw [l, hn]
  · obtain ⟨Hf, ds, Fr, l, r, sx, h⟩ := h
    refine ⟨_, hbody cdv A outer s H E ⟨S.nd, rfl, takes_of rfl rfl rfl rfl, passes_of rfl, hr⟩, Hf, ds.map (fun d => some (.sh d)) ++ List.replicate (N.length - ds.length) none, Fr, ⟨vs.zip (ds.map .sh), ?_, ?_⟩, ?_⟩
    · have := slots_start (N.length - ds.length) r.len
      unfold L2.start
      rw [r.len]
      exact this
    · exact sx.addAll r
    · unfold runP at h
      generalize body (ds.map (fun d => some (.sh d)) ++ List.replicate (N.length - ds.length) none) = out at h
      cases out with
      | next ρ' => exact fun σ' H' Hf' sm s' => h .non H' Hf' sm (by
          obtain ⟨its, hs, s2⟩ := s'.ex
          have s3 : SX K Hf' [] Fr H' := SX.tail (A := its) (B := []) (show SX K Hf' (its ++ []) Fr H' by rw [List.append_nil]; exact s2)
          exact s3.add .non)
      | ret o ρ' => exact fun v σ' H' Hf' sm s' => h v H' Hf' sm (by
          obtain ⟨its, hs, s2⟩ := s'.ex
          exact SX.head (A := [(v, o)]) s2)
      | brk ρ' => exact h.elim
      | cnt ρ' => exact h.elim
      | exc e ρ' => exact fun σ' H' Hf' cls d sm s' x => h H' Hf' cls d sm (by
          obtain ⟨its, hs, s2⟩ := s'.ex
          exact SX.tail (A := its) (B := []) (show SX K Hf' (its ++ []) Fr H' by rw [List.append_nil]; exact s2)) x
      | stk => exact h.elim
end

/-! ### subscripts -/
abbrev DK := Sum Key (List Key)
def asKey : PyData → Option Key
  | .int i => some (.inl i)
  | .str x => some (.inr x)
  | _ => none
def asKeys : List PyData → Option (List Key)
  | [] => some []
  | d :: ds => match asKey d, asKeys ds with
    | some k, some ks => some (k :: ks)
    | _, _ => none
def asDK : PyData → Option DK
  | .int i => some (.inl (.inl i))
  | .str x => some (.inl (.inr x))
  | .tuple ds => (asKeys ds).map .inr
  | _ => none
/-- a key's tuple that is no module's constant -/
def fineK : DK → Bool
  | .inl _ => true
  | .inr ks => ks.any fun k => match k with
    | .inl _ => true
    | .inr _ => false
theorem asKey_kD (k : Key) : asKey (kD k) = some k := by cases k <;> rfl
theorem asKeys_kD : ∀ ks : List Key, asKeys (ks.map kD) = some ks
  | [] => rfl
  | k :: ks => by rw [List.map_cons, asKeys, asKey_kD, asKeys_kD ks]
theorem asKey_inv {d : PyData} {k : Key} (h : asKey d = some k) : d = kD k := by
  cases d <;> simp [asKey] at h <;> subst h <;> rfl
theorem asKeys_inv : ∀ {ds : List PyData} {ks : List Key}, asKeys ds = some ks → ds = ks.map kD
  | [], ks, h => by simp [asKeys] at h; subst h; rfl
  | d :: ds, ks, h => by
    rw [asKeys] at h
    split at h
    · rename_i k ks' h1 h2
      cases h
      rw [List.map_cons, ← asKey_inv h1, ← asKeys_inv h2]
    · cases h
theorem asDK_kD (k : Key) : asDK (kD k) = some (.inl k) := by cases k <;> rfl
theorem asDK_ktD (ks : List Key) : asDK (ktD ks) = some (.inr ks) := by simp [asDK, ktD, asKeys_kD]
theorem asDK_inl {d : PyData} {k : Key} (h : asDK d = some (.inl k)) : d = kD k := by
  cases d <;> simp [asDK] at h <;> subst h <;> rfl
theorem asDK_inr {d : PyData} {ks : List Key} (h : asDK d = some (.inr ks)) : d = ktD ks := by
  cases d with
  | tuple ds =>
    simp only [asDK, Option.map_eq_some_iff] at h
    obtain ⟨ks', h1, h2⟩ := h
    cases h2
    rw [asKeys_inv h1]; rfl
  | _ => simp [asDK] at h
/-- what the dict holds at k -/
def dLook (kvs : List (PyData × PyData)) (k : PyData) : Option PyData := match asDK k with
  | some q => (kvs.find? fun p => decide (asDK p.1 = some q)).map (·.2)
  | none => none
def isT : List (PyData × PyData) → Bool
  | (.none, _) :: _ => true
  | _ => false
/-- may k be asked of the dict -/
def okK (kvs : List (PyData × PyData)) (k : PyData) : Bool := match asDK k with
  | some (.inl _) => !isT kvs
  | some (.inr ks) => isT kvs && fineK (.inr ks)
  | none => false
section
variable {K : PySem.W.Frag} {H : Hp}
theorem rp_key {y : V} {k : Key} (h : Rp K H y (kD k)) : y = kV k := by
  cases k with
  | inl i => exact rp_int h
  | inr x => exact rp_str h
theorem rpAll_keys : ∀ {ys : List V} {ks : List Key}, RpAll K H ys (ks.map kD) → ys = ks.map kV
  | _, [], .nil => rfl
  | _, k :: ks, .cons h r => by rw [rp_key h, rpAll_keys r]; rfl
theorem rp_keyT {y : V} {ks : List Key} (h : Rp K H y (ktD ks)) (hf : fineK (.inr ks) = true) : ∃ b, y = .ref b ∧ H b = some (.tup (ks.map kV)) := by
  generalize hd : ktD ks = d at h
  cases h with
  | tup h r =>
    cases hd
    exact ⟨_, rfl, by rw [← rpAll_keys r]; exact h⟩
  | tupK h n =>
    rename_i xs
    exfalso
    have e : ks.map kD = xs.map PyData.str := by injection hd
    have : ∀ (ks : List Key) (xs : List Str), ks.map kD = xs.map PyData.str → (ks.any fun k => match k with | .inl _ => true | .inr _ => false) = false := by
      intro ks
      induction ks with
      | nil => intro _ _; rfl
      | cons k ks ih =>
        intro xs e
        cases xs with
        | nil => cases e
        | cons x xs =>
          injection e with e1 e2
          cases k with
          | inl i => cases e1
          | inr z => simp only [List.any_cons, Bool.false_or]; exact ih xs e2
    rw [fineK, this ks xs e] at hf
    cases hf
  | non => cases hd
  | bl => cases hd
  | int => cases hd
  | str => cases hd
  | lst => cases hd
  | dk => cases hd
  | dt => cases hd
theorem find_zip {κ : Type} [DecidableEq κ] {key : κ → PyData} {q : κ → DK} (hq : ∀ k, asDK (key k) = some (q k)) (inj : ∀ a b, q a = q b → a = b) : ∀ {kvs : List (κ × V)} {ds : List PyData} {k : κ}, RpAll K H (kvs.map (·.2)) ds →
    (∀ d, (((kvs.map fun p => key p.1).zip ds).find? fun p => decide (asDK p.1 = some (q k))).map (·.2) = some d → ∃ v, valV kvs k = some v ∧ Rp K H v d) ∧ ((((kvs.map fun p => key p.1).zip ds).find? fun p => decide (asDK p.1 = some (q k))).map (·.2)).isSome = (valV kvs k).isSome
  | [], _, k, r => ⟨fun d h => by simp at h, by simp [valV]⟩
  | (k', v) :: kvs, d :: ds, k, .cons h r => by
    obtain ⟨ih1, ih2⟩ := find_zip hq inj (kvs := kvs) (ds := ds) (k := k) r
    simp only [List.map_cons, List.zip_cons_cons, List.find?_cons, hq]
    by_cases e : k' = k
    · subst e
      simp only [decide_true, Option.map_some]
      refine ⟨fun d' h' => ?_, ?_⟩
      · cases h'
        exact ⟨v, valV_pos (p := (k', v)) rfl, h⟩
      · rw [valV_pos (p := (k', v)) rfl]; rfl
    · have ne : ¬ some (q k') = some (q k) := fun z => e (inj _ _ (Option.some.inj z))
      simp only [decide_eq_false ne]
      rw [valV_neg (p := (k', v)) (by exact e)]
      exact ⟨ih1, ih2⟩
/-- the dict at a, as HandS asks it -/
theorem rp_dget {x y : V} {kvs : List (PyData × PyData)} {k : PyData} (hx : Rp K H x (.dict kvs)) (hy : Rp K H y k) (ok : okK kvs k = true) : ∃ a o, x = .ref a ∧ DGet H a y o ∧ o.isSome = (dLook kvs k).isSome ∧ ∀ d, dLook kvs k = some d → ∃ v, o = some v ∧ Rp K H v d := by
  unfold okK at ok
  unfold dLook
  cases q : asDK k with
  | none => rw [q] at ok; cases ok
  | some dk =>
    rw [q] at ok
    generalize hd : PyData.dict kvs = dd at hx
    cases hx with
    | dk hr r =>
      rename_i a kv ds
      cases hd
      cases dk with
      | inl key =>
        have e := asDK_inl q
        subst e
        have ey := rp_key hy
        subst ey
        obtain ⟨f1, f2⟩ := find_zip (key := kD) (q := .inl) asDK_kD (fun a b z => Sum.inl.inj z) (k := key) r
        exact ⟨_, _, rfl, .inl ⟨_, key, hr, rfl, rfl⟩, f2.symm, fun d hd => by
          obtain ⟨v, h1, h2⟩ := f1 d hd
          exact ⟨v, h1, h2⟩⟩
      | inr ks =>
        exfalso
        have ok : (isT _ && fineK (.inr ks)) = true := ok
        rw [Bool.and_eq_true] at ok
        have h1 := ok.1
        cases kv with
        | nil => cases h1
        | cons p kv =>
          cases ds with
          | nil => cases r
          | cons d ds =>
            obtain ⟨k', v⟩ := p
            cases k' <;> cases h1
    | dt hr r =>
      rename_i a kv ds
      cases hd
      cases dk with
      | inl key => cases ok
      | inr ks =>
        have ok : (isT _ && fineK (.inr ks)) = true := ok
        rw [Bool.and_eq_true] at ok
        have e := asDK_inr q
        subst e
        obtain ⟨b, rfl, hb⟩ := rp_keyT hy ok.2
        obtain ⟨f1, f2⟩ := find_zip (key := ktD) (q := .inr) asDK_ktD (fun a b z => Sum.inr.inj z) (k := ks) r
        have skip : ∀ l : List (PyData × PyData), (((PyData.none, PyData.none) :: l).find? fun p => decide (asDK p.1 = some (.inr ks))) = l.find? fun p => decide (asDK p.1 = some (.inr ks)) := fun l => by
          rw [List.find?_cons]
          have : decide (asDK PyData.none = some (Sum.inr ks)) = false := by simp [asDK]
          simp only [this]
        simp only [skip]
        exact ⟨_, _, rfl, .inr ⟨_, ks, b, hr, rfl, hb, rfl⟩, f2.symm, fun d hd => by
          obtain ⟨v, h1, h2⟩ := f1 d hd
          exact ⟨v, h1, h2⟩⟩
    | non => cases hd
    | bl => cases hd
    | int => cases hd
    | str => cases hd
    | lst => cases hd
    | tup => cases hd
    | tupK => cases hd
end
def rIxD : R2 := fun x y H Q => ∃ a v, x = .ref a ∧ DGet H a y (some v) ∧ Q v H
theorem ix_dict (hu : X.A.units + 1 < cLine) : IxR X rIxD := by
  intro value slice pins s σ H x y v u Q I rx ry h hs
  obtain ⟨a, z, rfl, g, q⟩ := h
  cases rx
  exact tail_any (dict_typeIs I g) PySem.F.slot_dict_getitem.lookup (d_getItem hu I g ry fun w' s3 I3 rw' => ⟨z, H, I3, rw', q⟩) hs
def gSub (a b : OV) : Option OV := match fz a, fz b with
  | .list ds, .int i => (atI ds i).map .sh
  | .tuple ds, .int i => (atI ds i).map .sh
  | .str z, .int i => if z.length ≤ sizeLine then (atI z.cps.toList i).map fun c => .sh (.str ⟨#[c]⟩) else none
  | .dict kvs, k => if okK kvs k = true then (dLook kvs k).map .sh else none
  | _, _ => none
theorem rpAll_at {K : PySem.W.Frag} {H : Hp} {vs : List V} {ds : List PyData} {i : Int} {d : PyData} (r : RpAll K H vs ds) (h : atI ds i = some d) : ∃ v, atI vs i = some v ∧ Rp K H v d := by
  unfold atI at h ⊢
  rw [r.len]
  cases q : ixN ds.length i with
  | none => rw [q] at h; cases h
  | some j =>
    rw [q] at h
    exact r.get h
abbrev rSub (K : PySem.W.Frag) : R2 := fun x y H Q => rIx K x y H Q ∨ rIxD x y H Q
theorem op2_sub {K : PySem.W.Frag} : Op2 K (rSub K) gSub := by
  intro Hf its F H x y a b c Q s h q
  obtain ⟨Hf', sm, s'⟩ := s.freeze2
  have q' : ∀ v H' Hf2, Same Hf' Hf2 → SX K Hf2 ((v, c) :: its) F H' → Q v H' := fun v H' Hf2 z => q v H' Hf2 (sm.trans z)
  unfold gSub at h
  generalize fz a = da at *
  generalize fz b = db at *
  have ry := s'.rp
  have rx := s'.drop.rp
  have s2 := s'.drop.drop
  split at h
  · obtain ⟨d, hd, rfl⟩ := Option.map_eq_some_iff.mp h
    obtain ⟨p1, xs, rfl, t1, r1⟩ := rx.sqL
    have e2 := rp_int ry
    subst e2
    obtain ⟨v, hv, rv⟩ := rpAll_at r1 hd
    exact .inl (.inl ⟨p1, xs, _, v, rfl, rfl, s'.sub.sqL t1, hv, q' _ _ _ (Same.refl _) (s2.add rv)⟩)
  · obtain ⟨d, hd, rfl⟩ := Option.map_eq_some_iff.mp h
    obtain ⟨p1, xs, rfl, t1, r1⟩ := rx.sqT
    have e2 := rp_int ry
    subst e2
    obtain ⟨v, hv, rv⟩ := rpAll_at r1 hd
    exact .inl (.inr (.inl ⟨p1, xs, _, v, rfl, rfl, s'.sub.sqT t1, hv, q' _ _ _ (Same.refl _) (s2.add rv)⟩))
  · split at h
    · rename_i hz
      obtain ⟨d, hd, rfl⟩ := Option.map_eq_some_iff.mp h
      have e1 := rp_str rx
      have e2 := rp_int ry
      subst e1 e2
      exact .inl (.inr (.inr ⟨_, _, d, rfl, rfl, hz, hd, q' _ _ _ (Same.refl _) (s2.add (.str _))⟩))
    · cases h
  · split at h
    · rename_i ok
      obtain ⟨d, hd, rfl⟩ := Option.map_eq_some_iff.mp h
      obtain ⟨ad, o, rfl, hg, _, f⟩ := rp_dget (rx.mono s'.sub) (ry.mono s'.sub) ok
      obtain ⟨ad', o', e', hg', _, f'⟩ := rp_dget rx ry ok
      obtain ⟨v, rfl, rv⟩ := f' d hd
      cases e'
      refine .inr ⟨ad, v, rfl, ?_, q' _ _ _ (Same.refl _) (s2.add rv)⟩
      rcases hg' with ⟨kvs, k, e, ey, l⟩ | ⟨kvs, k, b, e, ey, eb, l⟩
      · exact .inl ⟨kvs, k, s'.sub.rd e, ey, l⟩
      · exact .inr ⟨kvs, k, b, s'.sub.rd e, ey, s'.sub.tup eb, l⟩
    · cases h
  · cases h
theorem ev_sub_ix (G : Good X W n) (ha : EvE X W a fa) (hb : EvE X W b fb) (hs : PlainIx b := by intro _ _; rfl) : EvE X W (.Subscript a b pos) (eBin gSub fa fb) := ev_top op2_sub (pe_ix (ix_seq.or (ix_dict (by have := G.hu; omega))) ha hb hs)
end
end Ev
namespace Ev
open PySem PySem.Spec L2
open PyProof.Rows hiding St

section
variable {X : Cx} {W : WX} {e a b c : Expr} {es rest : List Expr} {f fa fb fc : Rho → Re} {ta tb : Rho → ReB} {fl : Rho → ReL} {p pos : Pos} {n m k : Nat} {x : Str}
/-! ### in -/
def flatD : PyData → Bool
  | .none => true | .bool _ => true | .int _ => true | .str _ => true | _ => false
theorem flat_rp {K : PySem.W.Frag} {H : Hp} {v : V} {d : PyData} (r : Rp K H v d) (h : flatD d = true) : flatV v = true := by
  cases r <;> first | rfl | (exact absurd (show false = true from h) Bool.false_ne_true)
theorem flat_eq {K : PySem.W.Frag} {H : Hp} {v w : V} {d e : PyData} (r : Rp K H v d) (q : Rp K H w e) (h : flatD d = true) (h' : flatD e = true) : eqV v w = PyData.eqv d e := by
  cases r <;> first
    | (exact absurd (show false = true from h) Bool.false_ne_true)
    | (cases q <;> first
        | (exact absurd (show false = true from h') Bool.false_ne_true)
        | (simp only [eqV, PyData.eqv]; done)
        | rfl)
theorem flat_all {K : PySem.W.Frag} {H : Hp} {v : V} {d : PyData} (r : Rp K H v d) (h : flatD d = true) : ∀ {vs : List V} {ds : List PyData}, RpAll K H vs ds → ds.all flatD = true → vs.all flatV = true ∧ inV v vs = ds.any fun z => PyData.eqv z d
  | _, _, .nil, _ => ⟨rfl, rfl⟩
  | _, _, .cons q t, hd => by
    rw [List.all_cons, Bool.and_eq_true] at hd
    obtain ⟨h1, h2⟩ := flat_all r h t hd.2
    refine ⟨by rw [List.all_cons, flat_rp q hd.1, h1]; rfl, ?_⟩
    unfold inV at h2 ⊢
    rw [List.any_cons, List.any_cons, flat_eq q r hd.1 h, h2]
def gIn (neg : Bool) (a b : OV) : Option OV := match fz b with
  | .list ds => if SeqAt.shaped (fz a) = true ∧ SeqAt.shaped (.list ds) = true then some (.sh (.bool (neg ^^ ds.any fun z => PyData.eqv z (fz a)))) else none
  | .tuple ds => if flatD (fz a) = true ∧ ds.all flatD = true then some (.sh (.bool (neg ^^ ds.any fun z => PyData.eqv z (fz a)))) else none
  | .dict kvs => if okK kvs (fz a) = true then some (.sh (.bool (neg ^^ (dLook kvs (fz a)).isSome))) else none
  | .str z => match fz a with
    | .str y => some (.sh (.bool (neg ^^ !(Builtin.Str.occurrences z y 0 z.length 1).isEmpty)))
    | _ => none
  | _ => none
def rInDict (neg : Bool) : R2 := fun x y H Q => ∃ a o, y = .ref a ∧ DGet H a x o ∧ Q (.bl (neg ^^ o.isSome)) H
def rInStr (neg : Bool) : R2 := fun x y H Q => ∃ i j, x = .str i ∧ y = .str j ∧ Q (.bl (neg ^^ !(Builtin.Str.occurrences j i 0 j.length 1).isEmpty)) H
def rInL (K : PySem.W.Frag) (neg : Bool) : R2 := fun x y H Q => ∃ d ds, Dp K H x d ∧ Dp K H y (.list ds) ∧ SeqAt.shaped d = true ∧ SeqAt.shaped (.list ds) = true ∧ Q (.bl (neg ^^ ds.any fun z => PyData.eqv z d)) H
abbrev rInAll (K : PySem.W.Frag) (neg : Bool) : R2 := fun x y H Q => rIn K neg x y H Q ∨ (rInL K neg x y H Q ∨ (rInDict neg x y H Q ∨ rInStr neg x y H Q))
theorem opr_in (G : Good X W n) : OpR X (compareOp .In) (rInAll X.K false) := by
  refine OpR.or op_in_seq (OpR.or (fun pins s σ H x y v u Q I rx ry ⟨d, ds, h1, h2, h3, h4, q⟩ => op_inD G.hu pins s σ H x y v u Q I rx ry ⟨d, ds, h1, h2, h3, h4, by simpa using q⟩) (OpR.or ?_ ?_))
  · intro pins s σ H x y v u Q I rx ry ⟨a, o, e, g, q⟩
    subst e
    cases ry
    exact d_in (by have := G.hu; omega) I g rx fun s' I' => ⟨.bl o.isSome, H, I', rfl, by simpa using q⟩
  · intro pins s σ H x y v u Q I rx ry ⟨i, j, e1, e2, q⟩
    exact op_in_str pins s σ H x y v u Q I rx ry ⟨i, j, e1, e2, by simpa using q⟩
theorem opr_notin (G : Good X W n) : OpR X (compareOp .NotIn) (rInAll X.K true) := by
  refine OpR.or op_notIn_seq (OpR.or (fun pins s σ H x y v u Q I rx ry ⟨d, ds, h1, h2, h3, h4, q⟩ => op_notInD G.hu pins s σ H x y v u Q I rx ry ⟨d, ds, h1, h2, h3, h4, by simpa using q⟩) (OpR.or ?_ ?_))
  · intro pins s σ H x y v u Q I rx ry ⟨a, o, e, g, q⟩
    subst e
    cases ry
    exact d_notIn (by have := G.hu; omega) I g rx fun s' I' => ⟨.bl (!o.isSome), H, I', rfl, by simpa using q⟩
  · intro pins s σ H x y v u Q I rx ry ⟨i, j, e1, e2, q⟩
    exact op_notin_str pins s σ H x y v u Q I rx ry ⟨i, j, e1, e2, by simpa using q⟩
theorem op2_in {K : PySem.W.Frag} (neg : Bool) : Op2 K (rInAll K neg) (gIn neg) := by
  intro Hf its F H x y a b c Q s h q
  have ry := s.rdH
  have rx := s.drop.rdH
  have s2 := s.drop.drop
  have fin : ∀ k, c = .sh (.bool k) → Q (.bl k) H := fun k e => by
    subst e
    exact q _ _ _ (Same.refl _) (s2.add (.bl _))
  unfold gIn at h
  generalize fz a = da at *
  generalize fz b = db at *
  split at h
  · split at h
    · rename_i hc
      cases h
      exact .inr (.inl ⟨_, _, rx.dp (SeqAt.canLay_of_shaped hc.1), ry.dp (SeqAt.canLay_of_shaped hc.2), hc.1, hc.2, fin _ rfl⟩)
    · cases h
  · split at h
    · rename_i hc
      cases h
      obtain ⟨p1, ys, rfl, t1, r1⟩ := ry.sqT
      obtain ⟨h1, h2⟩ := flat_all rx hc.1 r1 hc.2
      refine .inl ⟨p1, ys, rfl, .inr t1, flat_rp rx hc.1, h1, ?_⟩
      cases neg with
      | false => rw [if_neg Bool.false_ne_true, h2]; exact fin _ (by rw [Bool.false_xor])
      | true => rw [if_pos rfl, h2]; exact fin _ (by rw [Bool.true_xor])
    · cases h
  · split at h
    · rename_i ok
      cases h
      obtain ⟨ad, o, rfl, hg, he, _⟩ := rp_dget ry rx ok
      exact .inr (.inr (.inl ⟨ad, o, rfl, hg, by rw [he]; exact fin _ rfl⟩))
    · cases h
  · split at h
    · cases h
      have e1 := rp_str rx
      have e2 := rp_str ry
      subst e1 e2
      exact .inr (.inr (.inr ⟨_, _, rfl, rfl, fin _ rfl⟩))
    · cases h
  · cases h
theorem ec_in (G : Good X W n) (ha : EvE X W a fa) (hb : EvE X W b fb) : EvC X W .In a b (eBin (gIn false) fa fb) := ec_op (opr_in G) (op2_in false) ha hb
theorem ec_notin (G : Good X W n) (ha : EvE X W a fa) (hb : EvE X W b fb) : EvC X W .NotIn a b (eBin (gIn true) fa fb) := ec_op (opr_notin G) (op2_in true) ha hb

/-! ### built-ins by their names -/
def OpN (K : PySem.W.Frag) (r : List V → Hp → VK → Prop) (g : List OV → Option OV) : Prop :=
  ∀ (Hf : Hp) (its : Its) (F : Bs) (H : Hp) (vs : List V) (os : List OV) (c : OV) (Q : VK), vs.length = os.length → SX K Hf (vs.zip os ++ its) F H → g os = some c →
    (∀ v H' Hf', Same Hf Hf' → SX K Hf' ((v, c) :: its) F H' → Q v H') → r vs H Q
def eFn (g : List OV → Option OV) (fl : Rho → ReL) (ρ : Rho) : Re := bindL (fl ρ) fun os ρ1 => ofO (g os) ρ1
theorem fn_post {r : List V → Hp → VK → Prop} {g : List OV → Option OV} (ho : OpN X.K r g) {σ : St} {H : Hp} {Q : VK} {Hf : Hp} {T : Its} {ρ : Rho} {F : Bs} (s : SI X.K Hf T ρ F σ H) (h : PostE X W Hf T F σ (eFn g fl ρ) Q) : tL X W fl σ H fun vs H1 => r vs H1 Q :=
  ⟨Hf, T, ρ, F, s, PostL.bind h fun os ρ1 vs H1 Hf1 l sm s1 h1 => by
    cases q : g os with
    | none => rw [q] at h1; exact h1.elim
    | some c =>
      rw [q] at h1
      obtain ⟨its, hs, s2⟩ := s1.ex
      rw [List.append_assoc] at s2
      exact ho Hf1 (T ++ its) F H1 vs os c Q l s2 q fun v H' Hf' sm' s' => h1 v H' Hf' sm' ⟨its, hs, s'⟩⟩
theorem ev_fnB {id : String} {r : List V → Hp → VK → Prop} {g : List OV → Option OV} (hc : CallR X (.builtin id) r) (ho : OpN X.K r g) (hg : Gl X x) (hm : X.mg x = none) (hv : bootBuiltins x = some (.builtin id)) (ha : EvL X W (e :: es) fl) (hn : x ≠ "__name__" := by decide) (hdb : (x == ("__debug__" : Str)) = false := by decide)
    (he : starEach (e :: es) X.env = (false, eval e X.env) :: starEach es X.env := by rfl) (hpl : (backTo pos (starEach es X.env)).any (·.1) = false := by rfl) : EvE X W (.Call (.Name x p) (e :: es) [] pos) (eFn g fl) :=
  pe_w (pe_callB hc hg hm hv ha hn hdb he hpl) fun σ H Q ⟨Hf, T, ρ, F, s, h⟩ => fn_post ho s h
theorem ev_fnT {id : String} {r : List V → Hp → VK → Prop} {g : List OV → Option OV} (hc : CallR X (.type id) r) (ho : OpN X.K r g) (hg : Gl X x) (hm : X.mg x = none) (hv : bootBuiltins x = some (.type id)) (ha : EvL X W (e :: es) fl) (hn : x ≠ "__name__" := by decide) (hdb : (x == ("__debug__" : Str)) = false := by decide)
    (he : starEach (e :: es) X.env = (false, eval e X.env) :: starEach es X.env := by rfl) (hpl : (backTo pos (starEach es X.env)).any (·.1) = false := by rfl) : EvE X W (.Call (.Name x p) (e :: es) [] pos) (eFn g fl) :=
  pe_w (pe_callTy hc hg hm hv ha hn hdb he hpl) fun σ H Q ⟨Hf, T, ρ, F, s, h⟩ => fn_post ho s h
/-- one argument, read -/
theorem opN1 {K : PySem.W.Frag} {r : List V → Hp → VK → Prop} {g : PyData → Option OV} (h : ∀ Hf its F H v d c Q, SX K Hf its F H → Rp K Hf v d → g d = some c → (∀ v H' Hf', Same Hf Hf' → SX K Hf' ((v, c) :: its) F H' → Q v H') → r [v] H Q) :
    OpN K r fun os => match os with | [o] => g (fz o) | _ => none := by
  intro Hf its F H vs os c Q l s hg q
  simp only at hg
  split at hg
  · rename_i o
    match vs, l with
    | [v], _ =>
      obtain ⟨Hf', sm, s'⟩ := SX.freeze (its := its) s
      exact h Hf' its F H v (fz o) c Q s'.drop s'.rp hg fun v H' Hf2 z => q v H' Hf2 (sm.trans z)
  · cases hg
theorem opN2 {K : PySem.W.Frag} {r : List V → Hp → VK → Prop} {g : PyData → PyData → Option OV} (h : ∀ Hf its F H v w d d' c Q, SX K Hf its F H → Rp K Hf v d → Rp K Hf w d' → g d d' = some c → (∀ v H' Hf', Same Hf Hf' → SX K Hf' ((v, c) :: its) F H' → Q v H') → r [v, w] H Q) :
    OpN K r fun os => match os with | [o, o'] => g (fz o) (fz o') | _ => none := by
  intro Hf its F H vs os c Q l s hg q
  simp only at hg
  split at hg
  · rename_i o o'
    match vs, l with
    | [v, w], _ =>
      obtain ⟨Hf', sm, r, s'⟩ := SX.freezeAll (its := its) [v, w] [o, o'] Hf rfl s
      cases r with
      | cons r1 r =>
        cases r with
        | cons r2 r => exact h Hf' its F H v w (fz o) (fz o') c Q s' r1 r2 hg fun v H' Hf2 z => q v H' Hf2 (sm.trans z)
  · cases hg
abbrev g1 (g : PyData → Option OV) : List OV → Option OV := fun os => match os with | [o] => g (fz o) | _ => none
abbrev g2 (g : PyData → PyData → Option OV) : List OV → Option OV := fun os => match os with | [o, o'] => g (fz o) (fz o') | _ => none

/-- len -/
def dLen : PyData → Option OV
  | .list ds => some (.sh (.int ds.length))
  | .tuple ds => some (.sh (.int ds.length))
  | .str z => if z.length ≤ sizeLine then some (.sh (.int z.length)) else none
  | _ => none
abbrev rLen (K : PySem.W.Frag) : List V → Hp → VK → Prop := fun xs H Q => (∃ p ys, xs = [.ref p] ∧ (SqL K H p ys ∨ SqT K H p ys) ∧ Q (.int ys.length) H) ∨ ∃ z, xs = [.str z] ∧ z.length ≤ sizeLine ∧ Q (.int z.length) H
theorem opn_len {K : PySem.W.Frag} : OpN K (rLen K) (g1 dLen) := opN1 fun Hf its F H v d c Q s r h q => by
  unfold dLen at h
  split at h
  · cases h
    obtain ⟨p1, ys, rfl, t1, r1⟩ := r.sqL
    exact .inl ⟨p1, ys, rfl, .inl (s.sub.sqL t1), by rw [r1.len]; exact q _ _ _ (Same.refl _) (s.add (.int _))⟩
  · cases h
    obtain ⟨p1, ys, rfl, t1, r1⟩ := r.sqT
    exact .inl ⟨p1, ys, rfl, .inr (s.sub.sqT t1), by rw [r1.len]; exact q _ _ _ (Same.refl _) (s.add (.int _))⟩
  · split at h
    · rename_i hz
      cases h
      have e := rp_str r
      subst e
      exact .inr ⟨_, rfl, hz, q _ _ _ (Same.refl _) (s.add (.int _))⟩
    · cases h
  · cases h
/-- a built-in function, a built-in type, by its rule -/
structure BIn (X : Cx) (x : Str) (id : String) (g : List OV → Option OV) : Prop where
  ex : ∃ r, CallR X (.builtin id) r ∧ OpN X.K r g
  nm : X.mg x = none
  bt : bootBuiltins x = some (.builtin id)
structure BTy (X : Cx) (x : Str) (id : String) (g : List OV → Option OV) : Prop where
  ex : ∃ r, CallR X (.type id) r ∧ OpN X.K r g
  nm : X.mg x = none
  bt : bootBuiltins x = some (.type id)
theorem ev_b {id : String} {g : List OV → Option OV} (B : BIn X x id g) (hg : Gl X x) (ha : EvL X W (e :: es) fl) (hn : x ≠ "__name__" := by decide) (hdb : (x == ("__debug__" : Str)) = false := by decide)
    (he : starEach (e :: es) X.env = (false, eval e X.env) :: starEach es X.env := by rfl) (hpl : (backTo pos (starEach es X.env)).any (·.1) = false := by rfl) : EvE X W (.Call (.Name x p) (e :: es) [] pos) (eFn g fl) := by
  obtain ⟨r, hc, ho⟩ := B.ex
  exact ev_fnB hc ho hg B.nm B.bt ha hn hdb he hpl
theorem ev_ty {id : String} {g : List OV → Option OV} (B : BTy X x id g) (hg : Gl X x) (ha : EvL X W (e :: es) fl) (hn : x ≠ "__name__" := by decide) (hdb : (x == ("__debug__" : Str)) = false := by decide)
    (he : starEach (e :: es) X.env = (false, eval e X.env) :: starEach es X.env := by rfl) (hpl : (backTo pos (starEach es X.env)).any (·.1) = false := by rfl) : EvE X W (.Call (.Name x p) (e :: es) [] pos) (eFn g fl) := by
  obtain ⟨r, hc, ho⟩ := B.ex
  exact ev_fnT hc ho hg B.nm B.bt ha hn hdb he hpl
theorem b_len (hm : X.mg "len" = none) : BIn X "len" "len" (g1 dLen) := ⟨⟨_, call_len_seq.or call_len_str, opn_len⟩, hm, boot_len⟩

/-- abs, max, min of two ints -/
def dAbs : PyData → Option OV
  | .int i => some (.sh (.int (if i < 0 then -i else i)))
  | _ => none
theorem b_abs (hm : X.mg "abs" = none) : BIn X "abs" "abs" (g1 dAbs) := ⟨⟨_, call_abs, opN1 fun Hf its F H v d c Q s r h q => by
  unfold dAbs at h
  split at h
  · cases h
    have e := rp_int r
    subst e
    exact ⟨_, rfl, q _ _ _ (Same.refl _) (s.add (.int _))⟩
  · cases h⟩, hm, by decide +kernel⟩
def intsOf : List PyData → Option (List Int)
  | [] => some []
  | .int i :: ds => (intsOf ds).map (i :: ·)
  | _ => none
def boolsOf : List PyData → Option (List Bool)
  | [] => some []
  | .bool i :: ds => (boolsOf ds).map (i :: ·)
  | _ => none
theorem rp_ints {K : PySem.W.Frag} {H : Hp} : ∀ {vs : List V} {ds : List PyData} {ns : List Int}, RpAll K H vs ds → intsOf ds = some ns → vs = ns.map V.int
  | _, _, _, .nil, h => by simp [intsOf] at h; subst h; rfl
  | _, _, ns, .cons (d := d) r t, h => by
    cases d with
    | int i =>
      obtain ⟨ms, h1, rfl⟩ := Option.map_eq_some_iff.mp h
      rw [rp_int r, rp_ints t h1]; rfl
    | _ => cases h
theorem rp_bls {K : PySem.W.Frag} {H : Hp} : ∀ {vs : List V} {ds : List PyData} {ns : List Bool}, RpAll K H vs ds → boolsOf ds = some ns → vs = ns.map V.bl
  | _, _, _, .nil, h => by simp [boolsOf] at h; subst h; rfl
  | _, _, ns, .cons (d := d) r t, h => by
    cases d with
    | bool i =>
      obtain ⟨ms, h1, rfl⟩ := Option.map_eq_some_iff.mp h
      rw [rp_bl r, rp_bls t h1]; rfl
    | _ => cases h
/-- the greatest, the least of some ints -/
def maxI : List Int → Int
  | [] => 0
  | [x] => x
  | x :: y :: r => max x (maxI (y :: r))
def minI : List Int → Int
  | [] => 0
  | [x] => x
  | x :: y :: r => min x (minI (y :: r))
theorem maxI_spec : ∀ {ns : List Int}, ns ≠ [] → maxI ns ∈ ns ∧ ∀ y ∈ ns, y ≤ maxI ns
  | [x], _ => ⟨by simp [maxI], by simp [maxI]⟩
  | x :: y :: r, _ => by
    obtain ⟨h1, h2⟩ := maxI_spec (ns := y :: r) (by simp)
    have e : maxI (x :: y :: r) = max x (maxI (y :: r)) := rfl
    rw [e]
    refine ⟨?_, fun z hz => ?_⟩
    · by_cases h : x ≤ maxI (y :: r)
      · rw [Int.max_eq_right h]; exact List.mem_cons_of_mem _ h1
      · rw [Int.max_eq_left (by omega)]; exact List.mem_cons_self
    · rcases List.mem_cons.mp hz with rfl | hz
      · exact Int.le_max_left _ _
      · exact Int.le_trans (h2 z hz) (Int.le_max_right _ _)
theorem minI_spec : ∀ {ns : List Int}, ns ≠ [] → minI ns ∈ ns ∧ ∀ y ∈ ns, minI ns ≤ y
  | [x], _ => ⟨by simp [minI], by simp [minI]⟩
  | x :: y :: r, _ => by
    obtain ⟨h1, h2⟩ := minI_spec (ns := y :: r) (by simp)
    have e : minI (x :: y :: r) = min x (minI (y :: r)) := rfl
    rw [e]
    refine ⟨?_, fun z hz => ?_⟩
    · by_cases h : x ≤ minI (y :: r)
      · rw [Int.min_eq_left h]; exact List.mem_cons_self
      · rw [Int.min_eq_right (by omega)]; exact List.mem_cons_of_mem _ h1
    · rcases List.mem_cons.mp hz with rfl | hz
      · exact Int.min_le_left _ _
      · exact Int.le_trans (Int.min_le_right _ _) (h2 z hz)
/-- max(a, b), max(list) -/
def gMax (two : Int → Int → Int) (many : List Int → Int) (os : List OV) : Option OV := match os with
  | [o, o'] => match fz o, fz o' with
    | .int i, .int j => some (.sh (.int (two i j)))
    | _, _ => none
  | [o] => match fz o with
    | .list ds => match intsOf ds with
      | some ns => if ns.isEmpty = true then none else some (.sh (.int (many ns)))
      | none => none
    | _ => none
  | _ => none
abbrev max2 (i j : Int) : Int := if j > i then j else i
abbrev min2 (i j : Int) : Int := if j < i then j else i
theorem opn_max {K : PySem.W.Frag} : OpN K (fun xs H Q => (∃ i j, xs = [V.int i, V.int j] ∧ Q (.int (if j > i then j else i)) H) ∨ rMax K xs H Q) (gMax max2 maxI) := by
  intro Hf its F H vs os c Q l s hg q
  unfold gMax at hg
  split at hg
  · exact opN2 (r := fun xs H Q => (∃ i j, xs = [V.int i, V.int j] ∧ Q (.int (if j > i then j else i)) H) ∨ rMax K xs H Q) (g := fun d d' => match d, d' with | .int i, .int j => some (.sh (.int (max2 i j))) | _, _ => none)
      (fun Hf its F H v w d d' c Q s r r' h q => by
        split at h
        · cases h
          have e := rp_int r
          have e' := rp_int r'
          subst e e'
          exact .inl ⟨_, _, rfl, q _ _ _ (Same.refl _) (s.add (.int _))⟩
        · cases h) Hf its F H vs _ c Q l s hg q
  · rename_i o
    match vs, l with
    | [v], _ =>
      obtain ⟨Hf', sm, s'⟩ := SX.freeze (its := its) s
      split at hg
      · split at hg
        · rename_i e1 _ _ e2
          split at hg
          · cases hg
          · rename_i hne
            cases hg
            rw [e1] at s'
            obtain ⟨p1, ys, rfl, t1, r1⟩ := s'.rp.sqL
            have ey := rp_ints r1 e2
            subst ey
            rename_i ns _
            have hne' : ns ≠ [] := fun z => hne (by rw [z]; rfl)
            refine .inr ⟨p1, ns, rfl, s'.sub.sqL t1, by cases ns with | nil => exact absurd rfl hne' | cons _ _ => simp, fun m hm hle => ?_⟩
            obtain ⟨g1, g2⟩ := maxI_spec hne'
            have e : m = maxI ns := Int.le_antisymm (g2 m hm) (hle _ g1)
            rw [e]
            exact q _ _ _ sm (s'.drop.add (.int _))
        · cases hg
      · cases hg
  · cases hg
theorem opn_min {K : PySem.W.Frag} : OpN K (fun xs H Q => (∃ i j, xs = [V.int i, V.int j] ∧ Q (.int (if j < i then j else i)) H) ∨ rMin K xs H Q) (gMax min2 minI) := by
  intro Hf its F H vs os c Q l s hg q
  unfold gMax at hg
  split at hg
  · exact opN2 (r := fun xs H Q => (∃ i j, xs = [V.int i, V.int j] ∧ Q (.int (if j < i then j else i)) H) ∨ rMin K xs H Q) (g := fun d d' => match d, d' with | .int i, .int j => some (.sh (.int (min2 i j))) | _, _ => none)
      (fun Hf its F H v w d d' c Q s r r' h q => by
        split at h
        · cases h
          have e := rp_int r
          have e' := rp_int r'
          subst e e'
          exact .inl ⟨_, _, rfl, q _ _ _ (Same.refl _) (s.add (.int _))⟩
        · cases h) Hf its F H vs _ c Q l s hg q
  · rename_i o
    match vs, l with
    | [v], _ =>
      obtain ⟨Hf', sm, s'⟩ := SX.freeze (its := its) s
      split at hg
      · split at hg
        · rename_i e1 _ _ e2
          split at hg
          · cases hg
          · rename_i hne
            cases hg
            rw [e1] at s'
            obtain ⟨p1, ys, rfl, t1, r1⟩ := s'.rp.sqL
            have ey := rp_ints r1 e2
            subst ey
            rename_i ns _
            have hne' : ns ≠ [] := fun z => hne (by rw [z]; rfl)
            refine .inr ⟨p1, ns, rfl, s'.sub.sqL t1, by cases ns with | nil => exact absurd rfl hne' | cons _ _ => simp, fun m hm hle => ?_⟩
            obtain ⟨g1, g2⟩ := minI_spec hne'
            have e : m = minI ns := Int.le_antisymm (hle _ g1) (g2 m hm)
            rw [e]
            exact q _ _ _ sm (s'.drop.add (.int _))
        · cases hg
      · cases hg
  · cases hg
theorem b_max (hc : X.calm = true) (hm : X.mg "max" = none) : BIn X "max" "max" (gMax max2 maxI) := ⟨⟨_, (call_max2 hc).or (cr_max hc), opn_max⟩, hm, by decide +kernel⟩
theorem b_min (hc : X.calm = true) (hm : X.mg "min" = none) : BIn X "min" "min" (gMax min2 minI) := ⟨⟨_, (call_min2 hc).or (cr_min hc), opn_min⟩, hm, by decide +kernel⟩
/-- sum, all, any of a list -/
def dSum : PyData → Option OV
  | .list ds => (intsOf ds).map fun ns => .sh (.int ns.sum)
  | _ => none
def dAll (f : List Bool → Bool) : PyData → Option OV
  | .list ds => (boolsOf ds).map fun ns => .sh (.bool (f ns))
  | _ => none
theorem b_sum (hc : X.calm = true) (hm : X.mg "sum" = none) : BIn X "sum" "sum" (g1 dSum) := ⟨⟨_, cr_sum hc, opN1 fun Hf its F H v d c Q s r h q => by
  unfold dSum at h
  split at h
  · obtain ⟨ns, h1, rfl⟩ := Option.map_eq_some_iff.mp h
    obtain ⟨p1, ys, rfl, t1, r1⟩ := r.sqL
    have ey := rp_ints r1 h1
    subst ey
    exact ⟨p1, ns, rfl, s.sub.sqL t1, q _ _ _ (Same.refl _) (s.add (.int _))⟩
  · cases h⟩, hm, by decide +kernel⟩
theorem b_all (hc : X.calm = true) (hm : X.mg "all" = none) : BIn X "all" "all" (g1 (dAll fun bs => bs.all id)) := ⟨⟨_, cr_all hc, opN1 fun Hf its F H v d c Q s r h q => by
  unfold dAll at h
  split at h
  · obtain ⟨ns, h1, rfl⟩ := Option.map_eq_some_iff.mp h
    obtain ⟨p1, ys, rfl, t1, r1⟩ := r.sqL
    have ey := rp_bls r1 h1
    subst ey
    exact ⟨p1, ns, rfl, s.sub.sqL t1, q _ _ _ (Same.refl _) (s.add (.bl _))⟩
  · cases h⟩, hm, by decide +kernel⟩
theorem b_any (hc : X.calm = true) (hm : X.mg "any" = none) : BIn X "any" "any" (g1 (dAll fun bs => bs.any id)) := ⟨⟨_, cr_any hc, opN1 fun Hf its F H v d c Q s r h q => by
  unfold dAll at h
  split at h
  · obtain ⟨ns, h1, rfl⟩ := Option.map_eq_some_iff.mp h
    obtain ⟨p1, ys, rfl, t1, r1⟩ := r.sqL
    have ey := rp_bls r1 h1
    subst ey
    exact ⟨p1, ns, rfl, s.sub.sqL t1, q _ _ _ (Same.refl _) (s.add (.bl _))⟩
  · cases h⟩, hm, by decide +kernel⟩
/-- int(n), int(flag) -/
def dInt : PyData → Option OV
  | .int i => some (.sh (.int i))
  | .bool b => some (.sh (.int (if b then 1 else 0)))
  | _ => none
theorem b_int (hm : X.mg "int" = none) : BTy X "int" "int" (g1 dInt) := ⟨⟨_, call_int1, opN1 fun Hf its F H v d c Q s r h q => by
  unfold dInt at h
  split at h
  · cases h
    have e := rp_int r
    subst e
    exact .inl ⟨_, rfl, q _ _ _ (Same.refl _) (s.add (.int _))⟩
  · cases h
    have e := rp_bl r
    subst e
    exact .inr ⟨_, rfl, q _ _ _ (Same.refl _) (s.add (.int _))⟩
  · cases h⟩, hm, by decide +kernel⟩
/-- list(x), tuple(x) -/
def dList : PyData → Option OV
  | .list ds => some (.lst (ds.map .sh))
  | .tuple ds => some (.lst (ds.map .sh))
  | _ => none
def dTuple : PyData → Option OV
  | .list ds => some (.sh (.tuple ds))
  | .tuple ds => some (.sh (.tuple ds))
  | _ => none
theorem b_list (hm : X.mg "list" = none) : BTy X "list" "list" (g1 dList) := ⟨⟨_, call_list_of, opN1 fun Hf its F H v d c Q s r h q => by
  unfold dList at h
  split at h
  · cases h
    obtain ⟨p1, ys, rfl, t1, r1⟩ := r.sqL
    exact ⟨p1, ys, rfl, .inl (s.sub.sqL t1), fun l hl => q _ _ _ (Same.refl _) (s.mkLst r1 hl)⟩
  · cases h
    obtain ⟨p1, ys, rfl, t1, r1⟩ := r.sqT
    exact ⟨p1, ys, rfl, .inr (s.sub.sqT t1), fun l hl => q _ _ _ (Same.refl _) (s.mkLst r1 hl)⟩
  · cases h⟩, hm, by decide +kernel⟩
theorem b_tuple (hm : X.mg "tuple" = none) : BTy X "tuple" "tuple" (g1 dTuple) := ⟨⟨_, call_tuple_of, opN1 fun Hf its F H v d c Q s r h q => by
  unfold dTuple at h
  split at h
  · cases h
    obtain ⟨p1, ys, rfl, t1, r1⟩ := r.sqL
    refine ⟨p1, ys, rfl, .inl ⟨s.sub.sqL t1, fun l hl => ?_⟩⟩
    obtain ⟨s3, sm⟩ := s.mkTup r1 hl
    exact q _ _ _ sm s3
  · cases h
    obtain ⟨p1, ys, rfl, t1, r1⟩ := r.sqT
    exact ⟨p1, ys, rfl, .inr ⟨s.sub.sqT t1, q _ _ _ (Same.refl _) (s.add r)⟩⟩
  · cases h⟩, hm, by decide +kernel⟩
/-! ### isinstance -/
def tyN : PyData → String
  | .none => "NoneType" | .bool _ => "bool" | .int _ => "int" | .str _ => "str" | .list _ => "list" | .tuple _ => "tuple" | .dict _ => "dict"
def isiB (T : String) : PyData → Bool
  | .none => false
  | .bool _ => T == "int" || T == "bool"
  | .int _ => T == "int"
  | .str _ => T == "str"
  | .list _ => T == "list"
  | .tuple _ => T == "tuple"
  | .dict _ => T == "dict"
def isDict : PyData → Bool
  | .dict _ => true
  | _ => false
theorem rp_ty {K : PySem.W.Frag} {H : Hp} {v : V} {d : PyData} (r : Rp K H v d) (h : isDict d = false) : TyX K H v (.type (tyN d)) := by
  cases r with
  | non => exact .base .non
  | bl b => exact .base (.bl b)
  | int i => exact .base (.int i)
  | str x => exact .base (.str x)
  | lst hr _ =>
    rcases hr with (hr | ⟨o, hr⟩) | ⟨o, its, k, hr, hc, _⟩
    · exact .base (.lst hr)
    · exact .base (.frz hr)
    · exact .kList hr hc
  | tup hr _ => exact .base (.tup hr)
  | tupK hr _ =>
    rcases hr with (hr | ⟨o, hr⟩) | ⟨o, its, k, hr, hc, _⟩
    · exact .base (.tup hr)
    · exact .fTuple hr
    · exact .kTuple hr hc
  | dk _ _ => cases h
  | dt _ _ => cases h
theorem kit_isi {K : PySem.W.Frag} {T : String} (hT : T = "int" ∨ T = "bool" ∨ T = "str" ∨ T = "list" ∨ T = "tuple") (d : PyData) (h : isDict d = false) : PySem.W.kitOne K (.type (tyN d)) (.type T) = some (isiB T d) := by
  cases d with
  | dict _ => cases h
  | _ => rcases hT with rfl | rfl | rfl | rfl | rfl <;> (simp only [tyN, isiB]; exact kit_ty (by decide +kernel))
def gIsi (T : String) (os : List OV) : Option OV := match os with
  | [o] => if isDict (fz o) = true then none else some (.sh (.bool (isiB T (fz o))))
  | _ => none
theorem ev_isi {T : String} {tn : Expr} (hg : Gl X "isinstance") (hm : X.mg "isinstance" = none) (hT : T = "int" ∨ T = "bool" ∨ T = "str" ∨ T = "list" ∨ T = "tuple") (ht : PE X tn (tC (.ty T))) (ha : EvE X W a fa)
    (he : starEach [a, tn] X.env = (false, eval a X.env) :: starEach [tn] X.env := by rfl) (hpl : (backTo pos (starEach [tn] X.env)).any (·.1) = false := by rfl) (he2 : starEach [tn] X.env = (false, eval tn X.env) :: starEach [] X.env := by rfl) : EvE X W (.Call (.Name "isinstance" p) [a, tn] [] pos) (eFn (gIsi T) (lCons fa lNil)) := by
  refine pe_w (pe_callB call_isi hg hm (by decide +kernel) (pa_cons ha (pa_cons ht pa_nil he2) he) (by decide) (by decide) he hpl) fun σ H Q ⟨Hf, T', ρ, F, s, h⟩ => ?_
  unfold eFn lCons at h
  refine ⟨Hf, T', ρ, F, s, ?_⟩
  cases q : fa ρ with
  | exc e ρ1 => rw [q] at h; exact h
  | stk => rw [q] at h; exact h
  | ok o ρ1 =>
    simp only [q, bindEL, lNil, bindLL, bindL, gIsi] at h
    intro v H1 Hf1 sm s1
    by_cases hd : isDict (fz o) = true
    · rw [if_pos hd] at h; exact h.elim
    · rw [if_neg hd] at h
      have hd' : isDict (fz o) = false := by simpa using hd
      have r := s1.rdH
      refine ⟨v, .ty T, _, _, isiB T (fz o), rfl, .ty T, rp_ty r hd', kit_isi hT _ hd', ?_⟩
      exact h _ H1 Hf1 sm (s1.drop.add (.bl _))
end
end Ev
namespace Ev
open PySem PySem.Spec L2
open PyProof.Rows hiding St

theorem SI.put' {K : PySem.W.Frag} {Hf H : Hp} {T : Its} {F : Bs} {v : V} {o : OV} {ρ : Rho} {σ : St} (i : Nat) (s : SI K Hf ((v, o) :: T) ρ F σ H) : SI K Hf T (ρ.set i (some o)) F (σ.set i (some v)) H := by
  by_cases hi : i < ρ.length
  · exact s.put hi
  · have h1 : ρ.set i (some o) = ρ := List.set_eq_of_length_le (by omega)
    have h2 : σ.set i (some v) = σ := List.set_eq_of_length_le (by have := s.len; omega)
    rw [h1, h2]
    exact s.drop
section
variable {X : Cx} {W : WX} {e a b c : Expr} {es rest : List Expr} {sts body els : List Stmt} {st : Stmt} {f fa fb fc : Rho → Re} {ta tb : Rho → ReB} {fl : Rho → ReL} {g g1 g2 : Rho → Out} {p pos : Pos} {n m k : Nat} {x : Str}
/-! ### statements -/
def sNil (ρ : Rho) : Out := .next ρ
def sCons (g1 g2 : Rho → Out) (ρ : Rho) : Out := match g1 ρ with
  | .next ρ' => g2 ρ'
  | .ret o ρ' => .ret o ρ'
  | .brk ρ' => .brk ρ'
  | .cnt ρ' => .cnt ρ'
  | .exc e ρ' => .exc e ρ'
  | .stk => .stk
theorem eb_nil : EvB X W [] sNil := pss_w pss_nil fun D σ H ⟨Hf, ρ, F, s, h⟩ => h σ H Hf (Same.refl _) s
theorem eb_one (h : EvS X W st g) : EvB X W [st] g := pss_one h
theorem eb_cons (h1 : EvS X W st g1) (h2 : EvB X W sts g2) : EvB X W (st :: sts) (sCons g1 g2) := pss_w (pss_cons h1 h2) fun D σ H ⟨Hf, ρ, F, s, h⟩ => by
  refine ⟨Hf, ρ, F, s, ?_⟩
  unfold sCons at h
  cases q : g1 ρ with
  | next ρ' => rw [q] at h; exact fun σ' H' Hf' sm s' => ⟨Hf', ρ', F, s', PostS.mono sm h⟩
  | ret o ρ' => rw [q] at h; exact h
  | brk ρ' => rw [q] at h; exact h
  | cnt ρ' => rw [q] at h; exact h
  | exc e ρ' => rw [q] at h; exact h
  | stk => rw [q] at h; exact h
def sPass (ρ : Rho) : Out := .next ρ
def sBrk (ρ : Rho) : Out := .brk ρ
def sCnt (ρ : Rho) : Out := .cnt ρ
theorem es_pass : EvS X W (.Pass pos) sPass := ps_w ps_pass fun D σ H ⟨Hf, ρ, F, s, h⟩ => h σ H Hf (Same.refl _) s
theorem es_brk : EvS X W (.Break pos) sBrk := ps_w ps_break fun D σ H ⟨Hf, ρ, F, s, h⟩ => h σ H Hf (Same.refl _) s
theorem es_cnt : EvS X W (.Continue pos) sCnt := ps_w ps_continue fun D σ H ⟨Hf, ρ, F, s, h⟩ => h σ H Hf (Same.refl _) s
def sRetN (ρ : Rho) : Out := .ret (.sh .none) ρ
theorem es_retN : EvS X W (.Return none pos) sRetN := ps_w ps_retN fun D σ H ⟨Hf, ρ, F, s, h⟩ => h .non σ H Hf (Same.refl _) (s.add .non)
def sRet (f : Rho → Re) (ρ : Rho) : Out := bindS (f ρ) fun o ρ1 => .ret o ρ1
theorem es_ret (he : EvE X W e f) : EvS X W (.Return (some e) pos) (sRet f) := ps_w (ps_ret he) fun D σ H ⟨Hf, ρ, F, s, h⟩ =>
  ⟨Hf, [], ρ, F, s, PostE.bindS h fun o ρ1 v H1 Hf1 sm s1 h1 => h1 v σ H1 Hf1 (Same.refl _) s1⟩
def sExpr (f : Rho → Re) (ρ : Rho) : Out := bindS (f ρ) fun _ ρ1 => .next ρ1
theorem es_expr (he : EvE X W e f) (hs : swapsWith e none pos.line X.env = pure false := by rfl) : EvS X W (.Expr e pos) (sExpr f) := ps_w (ps_expr he hs) fun D σ H ⟨Hf, ρ, F, s, h⟩ =>
  ⟨Hf, [], ρ, F, s, PostE.bindS h fun o ρ1 v H1 Hf1 sm s1 h1 => h1 σ H1 Hf1 (Same.refl _) s1.drop⟩
def sIf (tc : Rho → ReB) (g1 g2 : Rho → Out) (ρ : Rho) : Out := bindBS (tc ρ) fun b ρ1 => if b = true then g1 ρ1 else g2 ρ1
theorem es_if {tc : Rho → ReB} (hc : EvT X W c tc) (h1 : EvB X W body g1) (h2 : EvB X W els g2) : EvS X W (.If c body els pos) (sIf tc g1 g2) := ps_w (ps_if hc h1 h2) fun D σ H ⟨Hf, ρ, F, s, h⟩ =>
  ⟨Hf, [], ρ, F, s, PostB.bindBS h fun b ρ1 H1 Hf1 sm s1 h1 => by
    cases b with
    | true => rw [if_pos rfl]; exact ⟨Hf1, ρ1, F, s1, h1⟩
    | false => rw [if_neg Bool.false_ne_true]; exact ⟨Hf1, ρ1, F, s1, h1⟩⟩
def sSet (i : Nat) (f : Rho → Re) (ρ : Rho) : Out := bindS (f ρ) fun o ρ1 => .next (ρ1.set i (some o))
theorem es_set {i : Nat} {pos' : Pos} (hN : X.N.Nodup) (hi : X.N[i]? = some x) (hx : Loc X.env.scope x) (he : EvE X W e f) (hs : swapsWith e (some (.Name x pos')) pos.line X.env = pure false := by rfl) (hf : X.fn x = true ∨ X.env.scope.names.lookup x = some .local := by first | exact .inl rfl | exact .inr rfl | assumption) :
    EvS X W (.Assign [.Name x pos'] e pos) (sSet i f) := ps_w (ps_set hN hi hx he hs hf) fun D σ H ⟨Hf, ρ, F, s, h⟩ =>
  ⟨Hf, [], ρ, F, s, PostE.bindS h fun o ρ1 v H1 Hf1 sm s1 h1 => h1 _ H1 Hf1 (Same.refl _) (s1.put' i)⟩
/-! ### targets -/
theorem wipe_get (σ : St) (j : Nat) : ∀ is : List Nat, (wipe σ is)[j]? = if j ∈ is ∧ j < σ.length then some none else σ[j]?
  | [] => by simp [wipe]
  | i :: is => by
    unfold wipe
    by_cases e : i = j
    · subst e
      by_cases hl : i < σ.length
      · rw [List.getElem?_set_self (by rw [wipe_length]; exact hl), if_pos ⟨List.mem_cons_self, hl⟩]
      · rw [List.getElem?_eq_none (by rw [List.length_set, wipe_length]; omega), if_neg (fun z => hl z.2), List.getElem?_eq_none (by omega)]
    · rw [List.getElem?_set_ne e, wipe_get σ j is]
      have h2 : ¬ j = i := fun q => e q.symm
      simp [List.mem_cons, h2]
theorem wipe_set {σ : St} {i : Nat} {y : Option V} {is : List Nat} (h : i ∈ is) : wipe (σ.set i y) is = wipe σ is := by
  apply List.ext_getElem?
  intro j
  rw [wipe_get, wipe_get, List.length_set]
  by_cases hj : j ∈ is ∧ j < σ.length
  · rw [if_pos hj, if_pos hj]
  · rw [if_neg hj, if_neg hj]
    by_cases e : i = j
    · subst e
      have hl : σ.length ≤ i := Nat.le_of_not_lt fun z => hj ⟨h, z⟩
      rw [List.set_eq_of_length_le hl]
    · rw [List.getElem?_set_ne e]
/-- is: the slots that the target stores -/
def tG (X : Cx) (is : List Nat) (h : OV → Rho → Option Rho) : TG := fun v σ H Q => ∃ Hf T ρ F o, SI X.K Hf ((v, o) :: T) ρ F σ H ∧ (match h o ρ with
  | some ρ' => ∀ σ' H' Hf', wipe σ' is = wipe σ is → Same Hf Hf' → SI X.K Hf' T ρ' F σ' H' → Q σ' H'
  | none => False)
def EvG (X : Cx) (is : List Nat) (tg : Expr) (h : OV → Rho → Option Rho) : Prop := PG X tg (tG X is h)
theorem pg_w {X : Cx} {tg : Expr} {t t' : TG} (h : PG X tg t) (hw : ∀ v σ H Q, t' v σ H Q → t v σ H Q) : PG X tg t' := ⟨fun pins s σ H v u Q I r h' => h.run pins s σ H v u Q I r (hw v σ H Q h')⟩
theorem pg_or {X : Cx} {tg : Expr} {t t' : TG} (h : PG X tg t) (h' : PG X tg t') : PG X tg (fun v σ H Q => t v σ H Q ∨ t' v σ H Q) := ⟨fun pins s σ H v u Q I r q => q.elim (h.run pins s σ H v u Q I r) (h'.run pins s σ H v u Q I r)⟩
def hName (i : Nat) (o : OV) (ρ : Rho) : Option Rho := some (ρ.set i (some o))
theorem eg_name {is : List Nat} {i : Nat} (hN : X.N.Nodup) (hi : X.N[i]? = some x) (hx : Loc X.env.scope x) (hf : X.fn x = true ∨ X.env.scope.names.lookup x = some .local := by first | exact .inl rfl | exact .inr rfl | assumption) (him : i ∈ is := by decide) : EvG X is (.Name x pos) (hName i) :=
  pg_w (pg_name hN hi hx hf) fun v σ H Q ⟨Hf, T, ρ, F, o, s, h⟩ => h _ H Hf (wipe_set him) (Same.refl _) (s.put' i)
/-- several targets -/
def tGs (X : Cx) (is : List Nat) (hs : List PyData → Rho → Option Rho) : TGs := fun vs σ H Q => ∃ Hf T ρ F ds, RpAll X.K Hf vs ds ∧ SI X.K Hf T ρ F σ H ∧ (match hs ds ρ with
  | some ρ' => ∀ σ' H' Hf', wipe σ' is = wipe σ is → Same Hf Hf' → SI X.K Hf' T ρ' F σ' H' → Q σ' H'
  | none => False)
def EvGs (X : Cx) (is : List Nat) (tgs : List Expr) (h : List PyData → Rho → Option Rho) : Prop := PGs X tgs (tGs X is h)
theorem pgs_w {X : Cx} {tg : List Expr} {t t' : TGs} (h : PGs X tg t) (hw : ∀ v σ H Q, t' v σ H Q → t v σ H Q) : PGs X tg t' := ⟨fun pins s σ H v u Q I r h' => h.run pins s σ H v u Q I r (hw v σ H Q h')⟩
def hNil (ds : List PyData) (ρ : Rho) : Option Rho := match ds with
  | [] => some ρ
  | _ => none
def hCons (h : OV → Rho → Option Rho) (hs : List PyData → Rho → Option Rho) (ds : List PyData) (ρ : Rho) : Option Rho := match ds with
  | [] => none
  | d :: r => match h (.sh d) ρ with
    | some ρ1 => hs r ρ1
    | none => none
theorem egs_nil {is : List Nat} : EvGs X is [] hNil := pgs_w pgs_nil fun vs σ H Q ⟨Hf, T, ρ, F, ds, r, s, h⟩ => by
  cases r with
  | nil => exact ⟨rfl, h σ H Hf rfl (Same.refl _) s⟩
  | cons _ _ => exact h.elim
theorem egs_cons {is : List Nat} {tgs : List Expr} {h1 : OV → Rho → Option Rho} {h2 : List PyData → Rho → Option Rho} (q1 : EvG X is e h1) (q2 : EvGs X is tgs h2) (hs : (assignEach (e :: tgs) X.env).map (·.2) = assign e X.env :: (assignEach tgs X.env).map (·.2) := by rfl) : EvGs X is (e :: tgs) (hCons h1 h2) := pgs_w (pgs_cons q1 q2 hs) fun vs σ H Q ⟨Hf, T, ρ, F, ds, r, s, h⟩ => by
  cases r with
  | nil => exact h.elim
  | @cons v vs d ds r1 r2 =>
    refine ⟨v, vs, rfl, Hf, T, ρ, F, .sh d, s.add r1, ?_⟩
    unfold hCons at h
    simp only at h
    cases q : h1 (.sh d) ρ with
    | none => rw [q] at h; exact h
    | some ρ1 =>
      rw [q] at h
      refine fun σ' H' Hf' ew sm s' => ⟨Hf', T, ρ1, F, ds, r2.mono (.of sm), s', ?_⟩
      simp only at h
      cases q2 : h2 ds ρ1 with
      | none => rw [q2] at h; exact h
      | some ρ2 => rw [q2] at h; exact fun σ2 H2 Hf2 ew2 sm2 => h σ2 H2 Hf2 (ew2.trans ew) (sm.trans sm2)
def hTup (n : Nat) (hs : List PyData → Rho → Option Rho) (o : OV) (ρ : Rho) : Option Rho := match fz o with
  | .tuple ds => if ds.length = n then hs ds ρ else none
  | .list ds => if ds.length = n then hs ds ρ else none
  | _ => none
theorem eg_tup {is : List Nat} {tgs : List Expr} {h : List PyData → Rho → Option Rho} {k : Nat} (G : Good X W m) (hq : EvGs X is tgs h)
    (hn : (assignEach tgs X.env).length = n := by rfl) (hst : (assignEach tgs X.env).findIdx? (·.1) = none := by rfl) : EvG X is (.Tuple tgs k pos) (hTup n h) :=
  pg_w (pg_or (pg_tup G.calm hq hn hst) (pg_lst G.calm hq hn hst)) fun v σ H Q ⟨Hf, T, ρ, F, o, s, hh⟩ => by
    obtain ⟨Hf', sm, s'⟩ := s.freeze
    unfold hTup at hh
    cases hd : fz o with
    | tuple ds =>
      rw [hd] at s'
      simp only [hd] at hh
      by_cases hl : ds.length = n
      · rw [if_pos hl] at hh
        obtain ⟨a, xs, rfl, t1, r1⟩ := s'.rp.sqT
        refine .inl ⟨a, xs, rfl, s'.sub.sqT t1, by rw [r1.len, hl], Hf', T, ρ, F, ds, r1, s'.drop, ?_⟩
        cases q : h ds ρ with
        | none => rw [q] at hh; exact hh
        | some ρ' => rw [q] at hh; exact fun σ2 H2 Hf2 ew sm2 => hh σ2 H2 Hf2 ew (sm.trans sm2)
      · rw [if_neg hl] at hh; exact hh.elim
    | list ds =>
      rw [hd] at s'
      simp only [hd] at hh
      by_cases hl : ds.length = n
      · rw [if_pos hl] at hh
        obtain ⟨a, xs, rfl, t1, r1⟩ := s'.rp.sqL
        refine .inr ⟨a, xs, rfl, s'.sub.sqL t1, by rw [r1.len, hl], Hf', T, ρ, F, ds, r1, s'.drop, ?_⟩
        cases q : h ds ρ with
        | none => rw [q] at hh; exact hh
        | some ρ' => rw [q] at hh; exact fun σ2 H2 Hf2 ew sm2 => hh σ2 H2 Hf2 ew (sm.trans sm2)
      · rw [if_neg hl] at hh; exact hh.elim
    | _ => simp only [hd] at hh
def ofH (r : Option Rho) : Out := match r with
  | some ρ => .next ρ
  | none => .stk
def sAsg (h : OV → Rho → Option Rho) (f : Rho → Re) (ρ : Rho) : Out := bindS (f ρ) fun o ρ1 => ofH (h o ρ1)
theorem es_asg {is : List Nat} {tg : Expr} {h : OV → Rho → Option Rho} (he : EvE X W e f) (hg : EvG X is tg h) (hs : swapsWithSole [tg] e pos.line X.env = pure false := by rfl) (hw : swappedStores [tg] e X.env = pure none := by rfl)
    (h1 : (assignEach [tg] X.env).map (·.2) = [assign tg X.env] := by rfl) : EvS X W (.Assign [tg] e pos) (sAsg h f) := ps_w (ps_asg he hg hs hw h1) fun D σ H ⟨Hf, ρ, F, s, hh⟩ =>
  ⟨Hf, [], ρ, F, s, PostE.bindS hh fun o ρ1 v H1 Hf1 sm s1 h1 => by
    refine ⟨Hf1, [], ρ1, F, o, s1, ?_⟩
    cases q : h o ρ1 with
    | none => rw [q] at h1; exact h1
    | some ρ2 => rw [q] at h1; exact fun σ' H' Hf' ew sm' s' => h1 σ' H' Hf' sm' s'⟩
/-- a, b = x, y -/
def sPar (i j : Nat) (fl : Rho → ReL) (ρ : Rho) : Out := match fl ρ with
  | .ok [o, o'] ρ1 => .next ((ρ1.set i (some o)).set j (some o'))
  | .exc e ρ1 => .exc e ρ1
  | _ => .stk
theorem es_par {i j : Nat} {y : Str} {px py pt : Pos} {kt k2 pt2} (G : Good X W m) (hN : X.N.Nodup) (hi : X.N[i]? = some x) (hj : X.N[j]? = some y) (hij : i ≠ j)
    (hx : X.env.scope.names.lookup x = some .local) (hy : X.env.scope.names.lookup y = some .local) (ha : EvL X W [a, b] fl)
    (hw : swappedStores [.Tuple [.Name x px, .Name y py] kt pt] (.Tuple [a, b] k2 pt2) X.env = pure (some [x, y]) := by rfl)
    (hs : swapsWithSole [.Tuple [.Name x px, .Name y py] kt pt] (.Tuple [a, b] k2 pt2) pos.line X.env = pure false := by rfl) :
    EvS X W (.Assign [.Tuple [.Name x px, .Name y py] kt pt] (.Tuple [a, b] k2 pt2) pos) (sPar i j fl) := ps_w (ps_par G.calm hN hi hj hij hx hy ha hw hs) fun D σ H ⟨Hf, ρ, F, s, h⟩ => by
  refine ⟨Hf, [], ρ, F, s, ?_⟩
  unfold sPar at h
  cases q : fl ρ with
  | exc e ρ1 => rw [q] at h; exact fun H' Hf' cls d sm s' => h σ H' Hf' cls d sm s'
  | stk => rw [q] at h; exact h
  | ok os ρ1 =>
    rw [q] at h
    match os, h with
    | [o, o'], h =>
      intro vs H1 Hf1 l sm s1
      match vs, l with
      | [v, w], _ =>
        refine ⟨v, w, rfl, h _ H1 Hf1 sm ?_⟩
        exact SI.put' j (SI.put' i s1)
    | [], h => exact h.elim
    | [_], h => exact h.elim
    | _ :: _ :: _ :: _, h => exact h.elim

/-! ### what is walked -/
structure WalkD (K : PySem.W.Frag) (Hf : Hp) (J : It) (ds : List PyData) : Prop where
  goes : ∀ i H, i < ds.length → Ext Hf H → J.go i H
  stops : ∀ H, Ext Hf H → J.stop ds.length H
  yields : ∀ i H y H', i < ds.length → Ext Hf H → J.yld i H y H' → ∃ d, ds[i]? = some d ∧ ((H' = H ∧ Rp K Hf y d) ∨ ∃ T xs es, y = .ref T ∧ H T = none ∧ H' = upd H T (.tup xs) ∧ RpAll K Hf xs es ∧ d = .tuple es)
inductive ReI where
  | ok (ds : List PyData) (ρ : Rho) | exc (e : Exn) (ρ : Rho) | stk
def tI (X : Cx) (W : WX) (f : Rho → ReI) : TI := fun σ H R => ∃ Hf T ρ F, SI X.K Hf T ρ F σ H ∧ (match f ρ with
  | .ok ds ρ' => ∀ J H' Hf', Same Hf Hf' → SI X.K Hf' T ρ' F σ H' → WalkD X.K Hf' J ds → R J H'
  | .exc e ρ' => ∀ H' Hf' cls d, Same Hf Hf' → SI X.K Hf' [] ρ' F σ H' → ExnIs X.mg X.K Hf' H' e cls d → W cls d σ H'
  | .stk => False)
def EvI (X : Cx) (W : WX) (tg iter : Expr) (f : Rho → ReI) : Prop := PI X tg iter (tI X W f)
theorem pi_w {X : Cx} {tg it : Expr} {t t' : TI} (h : PI X tg it t) (hw : ∀ σ H R, t' σ H R → t σ H R) : PI X tg it t' := ⟨fun pins s σ H R I h' => h.run pins s σ H R I (hw σ H R h')⟩
theorem pi_or {X : Cx} {tg it : Expr} {t t' : TI} (h : PI X tg it t) (h' : PI X tg it t') : PI X tg it (fun σ H R => t σ H R ∨ t' σ H R) := ⟨fun pins s σ H R I q => q.elim (h.run pins s σ H R I) (h'.run pins s σ H R I)⟩
/-- the items of a value -/
def itemsOf : PyData → Option (List PyData)
  | .list ds => some ds
  | .tuple ds => some ds
  | _ => none
def iVal (f : Rho → Re) (ρ : Rho) : ReI := match f ρ with
  | .ok o ρ1 => match itemsOf (fz o) with
    | some ds => .ok ds ρ1
    | none => .stk
  | .exc e ρ1 => .exc e ρ1
  | .stk => .stk
theorem walkD_list {K : PySem.W.Frag} {Hf : Hp} {a : Addr} {xs : List V} {ds : List PyData} (h : SqL K Hf a xs) (r : RpAll K Hf xs ds) : WalkD K Hf (Itl K a) ds := by
  have w := @walk_list K a xs
  refine ⟨fun i H hi e => w.goes i H (by rw [r.len]; exact hi) (e.sqL h), fun H e => by rw [← r.len]; exact w.stops H (e.sqL h), fun i H y H' hi e q => ?_⟩
  obtain ⟨e1, e2⟩ := w.yields i H y H' (by rw [r.len]; exact hi) (e.sqL h) q
  obtain ⟨d, hd, rd⟩ := r.get' e2
  exact ⟨d, hd, .inl ⟨e1, rd⟩⟩
theorem walkD_tup {K : PySem.W.Frag} {Hf : Hp} {a : Addr} {xs : List V} {ds : List PyData} (h : SqT K Hf a xs) (r : RpAll K Hf xs ds) : WalkD K Hf (Itt K a) ds := by
  have w := @walk_tup K a xs
  refine ⟨fun i H hi e => w.goes i H (by rw [r.len]; exact hi) (e.sqT h), fun H e => by rw [← r.len]; exact w.stops H (e.sqT h), fun i H y H' hi e q => ?_⟩
  obtain ⟨e1, e2⟩ := w.yields i H y H' (by rw [r.len]; exact hi) (e.sqT h) q
  obtain ⟨d, hd, rd⟩ := r.get' e2
  exact ⟨d, hd, .inl ⟨e1, rd⟩⟩
theorem ei_val {tg : Expr} (h : EvE X W e f) : EvI X W tg e (iVal f) := pi_w (pi_or (pi_list h) (pi_tup h)) fun σ H R ⟨Hf, T, ρ, F, s, h⟩ => by
  unfold iVal at h
  cases q : f ρ with
  | exc e ρ1 => rw [q] at h; exact .inl ⟨Hf, T, ρ, F, s, by rw [q]; exact h⟩
  | stk => rw [q] at h; exact h.elim
  | ok o ρ1 =>
    simp only [q] at h
    cases q2 : fz o with
    | list ds =>
      simp only [q2, itemsOf] at h
      refine .inl ⟨Hf, T, ρ, F, s, ?_⟩
      rw [q]
      intro v H1 Hf1 sm s1
      obtain ⟨Hf2, sm2, s2⟩ := s1.freeze
      rw [q2] at s2
      obtain ⟨a, xs, rfl, t1, r1⟩ := s2.rp.sqL
      exact ⟨a, rfl, ⟨xs, s2.sub.sqL t1⟩, h _ H1 Hf2 (sm.trans sm2) s2.drop (walkD_list t1 r1)⟩
    | tuple ds =>
      simp only [q2, itemsOf] at h
      refine .inr ⟨Hf, T, ρ, F, s, ?_⟩
      rw [q]
      intro v H1 Hf1 sm s1
      obtain ⟨Hf2, sm2, s2⟩ := s1.freeze
      rw [q2] at s2
      obtain ⟨a, xs, rfl, t1, r1⟩ := s2.rp.sqT
      exact ⟨a, rfl, ⟨xs, s2.sub.sqT t1⟩, h _ H1 Hf2 (sm.trans sm2) s2.drop (walkD_tup t1 r1)⟩
    | _ => simp only [q2, itemsOf] at h
/-- lo, lo + 1, .. -/
def upto (lo : Int) (n : Nat) : List PyData := (List.range n).map fun i => .int (lo + (i : Nat))
theorem walkD_range {K : PySem.W.Frag} {Hf : Hp} {lo : Int} {n : Nat} : WalkD K Hf (Itr lo n) (upto lo n) := by
  have hl : (upto lo n).length = n := by simp [upto]
  refine ⟨fun i H hi _ => by rw [hl] at hi; exact hi, fun H _ => by rw [hl]; exact Nat.le_refl _, fun i H y H' hi _ q => ?_⟩
  obtain ⟨e1, e2⟩ := q
  rw [hl] at hi
  refine ⟨.int (lo + (i : Nat)), by simp [upto, hi], .inl ⟨e1, ?_⟩⟩
  rw [e2]
  exact .int _
def rngOk (i : Int) : Bool := decide (-(2 ^ 62) ≤ i ∧ i < 2 ^ 62)
def iRange1 (f : Rho → Re) (ρ : Rho) : ReI := match f ρ with
  | .ok (.sh (.int j)) ρ1 => if rngOk j = true then .ok (upto 0 j.toNat) ρ1 else .stk
  | .exc e ρ1 => .exc e ρ1
  | _ => .stk
def iRange2 (fl : Rho → ReL) (ρ : Rho) : ReI := match fl ρ with
  | .ok [.sh (.int i), .sh (.int j)] ρ1 => if (rngOk i && rngOk j) = true then .ok (upto i (j - i).toNat) ρ1 else .stk
  | .exc e ρ1 => .exc e ρ1
  | _ => .stk
theorem ei_range1 {tg : Expr} (hg : Gl X "range") (hm : X.mg "range" = none) (h : EvE X W a f) (hs : starEach [a] X.env = [(false, eval a X.env)] := by rfl) : EvI X W tg (.Call (.Name "range" p) [a] [] pos) (iRange1 f) :=
  pi_w (pi_range1 hg hm (pa_cons h pa_nil (by rw [hs]; rfl)) hs) fun σ H R ⟨Hf, T, ρ, F, s, h⟩ => by
    refine ⟨Hf, T, ρ, F, s, ?_⟩
    unfold iRange1 at h
    cases q : f ρ with
    | exc e ρ1 => rw [q] at h; exact h
    | stk => rw [q] at h; exact h
    | ok o ρ1 =>
      rw [q] at h
      intro v H1 Hf1 sm s1
      cases o with
      | sh d =>
        cases d with
        | int j =>
          simp only at h
          by_cases hr : rngOk j = true
          · rw [if_pos hr] at h
            have e := rp_int s1.rp
            subst e
            have hr' := of_decide_eq_true hr
            exact ⟨j, rfl, hr'.1, hr'.2, h _ H1 Hf1 sm s1.drop walkD_range⟩
          · rw [if_neg hr] at h; exact h.elim
        | _ => exact h.elim
      | _ => exact h.elim
theorem ei_range2 {tg : Expr} (hg : Gl X "range") (hm : X.mg "range" = none) (h : EvL X W [a, b] fl) (hs : starEach [a, b] X.env = [(false, eval a X.env), (false, eval b X.env)] := by rfl) (hs2 : starEach [b] X.env = [(false, eval b X.env)] := by rfl) : EvI X W tg (.Call (.Name "range" p) [a, b] [] pos) (iRange2 fl) :=
  pi_w (pi_range2 hg hm h hs hs2) fun σ H R ⟨Hf, T, ρ, F, s, h⟩ => by
    refine ⟨Hf, T, ρ, F, s, ?_⟩
    unfold iRange2 at h
    cases q : fl ρ with
    | exc e ρ1 => rw [q] at h; exact h
    | stk => rw [q] at h; exact h
    | ok os ρ1 =>
      rw [q] at h
      intro vs H1 Hf1 l sm s1
      match os, h with
      | [.sh (.int i), .sh (.int j)], h =>
        match vs, l with
        | [v, w], _ =>
          by_cases hr : (rngOk i && rngOk j) = true
          · simp only [if_pos hr] at h
            have e1 := rp_int (SI.rp (T := (w, .sh (.int j)) :: T) s1)
            have e2 := rp_int (SI.rp (T := T) (SI.drop (T := (w, .sh (.int j)) :: T) s1))
            subst e1 e2
            rw [Bool.and_eq_true] at hr
            have h1 := of_decide_eq_true hr.1
            have h2 := of_decide_eq_true hr.2
            exact ⟨i, j, rfl, ⟨h1.1, h1.2, h2.1, h2.2⟩, h _ H1 Hf1 sm (SI.drop (T := T) (SI.drop (T := (V.int j, .sh (.int j)) :: T) s1)) walkD_range⟩
          · simp only [if_neg hr] at h

/-! ### for -/
def fgt : List Nat → Rho → Rho
  | [], ρ => ρ
  | i :: is, ρ => fgt is (ρ.set i none)
theorem SI.fgt {K : PySem.W.Frag} {Hf H : Hp} {T : Its} {F : Bs} {σ : St} : ∀ (is : List Nat) {ρ : Rho}, SI K Hf T ρ F σ H → SI K Hf T (fgt is ρ) F σ H
  | [], _, s => s
  | i :: is, _, s => SI.fgt is (s.forget i)
/-- fs: what is not asked again from turn to turn, nor behind the loop -/
def forL (fs : List Nat) (h : OV → Rho → Option Rho) (body : Rho → Out) : List PyData → Rho → Out
  | [], ρ => .next ρ
  | d :: ds, ρ => match h (.sh d) ρ with
    | none => .stk
    | some ρ1 => match body ρ1 with
      | .next ρ2 => forL fs h body ds (fgt fs ρ2)
      | .cnt ρ2 => forL fs h body ds (fgt fs ρ2)
      | .brk ρ2 => .next (fgt fs ρ2)
      | .ret o ρ2 => .ret o ρ2
      | .exc e ρ2 => .exc e ρ2
      | .stk => .stk
def sFor (fs : List Nat) (fi : Rho → ReI) (h : OV → Rho → Option Rho) (body : Rho → Out) (ρ : Rho) : Out := match fi ρ with
  | .ok ds ρ1 => forL fs h body ds (fgt fs ρ1)
  | .exc e ρ1 => .exc e ρ1
  | .stk => .stk
theorem es_for {is : List Nat} {tg iter : Expr} {fi : Rho → ReI} {h : OV → Rho → Option Rho} {gb : Rho → Out} (fs : List Nat) (G : Good X W m) (hi : EvI X W tg iter fi) (hg : EvG X is tg h) (hb : EvB X W body gb)
    (hs : ∀ x, foldedSetIterable iter X.env x = pure x := by intro _; rfl) : EvS X W (.For tg iter body [] pos) (sFor fs fi h gb) := ps_w (ps_for G.po G.calm hi hg hb hs) fun D σ H ⟨Hf, ρ, F, s, hh⟩ => by
  refine ⟨Hf, [], ρ, F, s, ?_⟩
  unfold sFor at hh
  cases q : fi ρ with
  | exc e ρ1 => rw [q] at hh; exact fun H' Hf' cls d sm s' => hh σ H' Hf' cls d sm s'
  | stk => rw [q] at hh; exact hh
  | ok ds ρ1 =>
    rw [q] at hh
    intro J H1 Hf1 sm1 s1 wd
    refine ⟨fun i m σ H => m = ds.length - i ∧ i ≤ ds.length ∧ ∃ Hf2 ρ2, Same Hf1 Hf2 ∧ SI X.K Hf2 [] ρ2 F σ H ∧ PostS X W Hf2 F (forL fs h gb (ds.drop i) ρ2) D,
      ⟨ds.length, rfl, Nat.zero_le _, Hf1, fgt fs ρ1, Same.refl _, s1.fgt fs, PostS.mono sm1 hh⟩, ?_⟩
    rintro i m σ2 H2 ⟨rfl, hi, Hf2, ρ2, sm2, s2, h2⟩
    have ext : Ext Hf1 H2 := Same.ext sm2 s2.sub
    by_cases hlt : i < ds.length
    · have hdrop : ds.drop i = ds[i] :: ds.drop (i + 1) := List.drop_eq_getElem_cons hlt
      rw [hdrop] at h2
      refine .inr ⟨wd.goes i H2 hlt ext, fun σ' H' => ∃ Hf3 ρ3, Same Hf1 Hf3 ∧ SI X.K Hf3 [] ρ3 F σ' H' ∧ PostS X W Hf3 F (forL fs h gb (ds.drop (i + 1)) ρ3) D, fun σ' H' ⟨Hf3, ρ3, a1, a2, a3⟩ => ⟨ds.length - (i + 1), by omega, rfl, hlt, Hf3, ρ3, a1, a2, a3⟩, fun y H' hy => ?_⟩
      obtain ⟨d, hd, hy⟩ := wd.yields i H2 y H' hlt ext hy
      have ed : d = ds[i] := by
        rw [List.getElem?_eq_getElem hlt] at hd
        exact (Option.some.inj hd).symm
      subst ed
      have base : ∃ Hf3, Same Hf2 Hf3 ∧ SI X.K Hf3 [(y, .sh ds[i])] ρ2 F σ2 H' := by
        rcases hy with ⟨rfl, r⟩ | ⟨T, xs, es, rfl, hT, rfl, r, e⟩
        · exact ⟨Hf2, Same.refl _, s2.add (r.mono (.of sm2))⟩
        · obtain ⟨its, hs', s3⟩ := s2.ex
          obtain ⟨s4, sm4⟩ := s3.mkTup (r.mono (.of sm2)) hT
          rw [e]
          exact ⟨_, sm4, its, hs', s4⟩
      obtain ⟨Hf3, sm3, s3⟩ := base
      refine ⟨Hf3, [], ρ2, F, .sh ds[i], s3, ?_⟩
      unfold forL at h2
      cases q2 : h (.sh ds[i]) ρ2 with
      | none => rw [q2] at h2; exact h2
      | some ρ3 =>
        simp only [q2] at h2
        refine fun σ4 H4 Hf4 ew sm4 s4 => ⟨Hf4, ρ3, F, s4, ?_⟩
        have h4 := PostS.mono (sm3.trans sm4) h2
        cases q3 : gb ρ3 with
        | next ρ4 =>
          simp only [q3] at h4
          exact fun σ5 H5 Hf5 sm5 s5 => ⟨Hf5, _, (sm2.trans (sm3.trans sm4)).trans sm5, s5.fgt fs, PostS.mono sm5 h4⟩
        | cnt ρ4 =>
          simp only [q3] at h4
          exact fun σ5 H5 Hf5 sm5 s5 => ⟨Hf5, _, (sm2.trans (sm3.trans sm4)).trans sm5, s5.fgt fs, PostS.mono sm5 h4⟩
        | brk ρ4 =>
          simp only [q3] at h4
          exact fun σ5 H5 Hf5 sm5 s5 => h4 σ5 H5 Hf5 sm5 (s5.fgt fs)
        | ret o ρ4 => simp only [q3] at h4; exact h4
        | exc e ρ4 => simp only [q3] at h4; exact h4
        | stk => simp only [q3] at h4; exact h4
    · have e : i = ds.length := by omega
      subst e
      refine .inl ⟨wd.stops H2 ext, ?_⟩
      rw [List.drop_length] at h2
      exact h2 σ2 H2 Hf2 (Same.refl _) s2
end
end Ev
namespace Ev
open PySem PySem.Spec L2
open PyProof.Rows hiding St

/-! ### comprehensions -/
theorem Slots.congr : ∀ {σ σ' : St} {ρ : Rho} {its : Its}, Slots σ ρ its → σ'.length = σ.length → (∀ (i : Nat) (o : OV), ρ[i]? = some (some o) → σ'[i]? = σ[i]?) → Slots σ' ρ its
  | [], [], _, _, .nil, _, _ => .nil
  | _ :: σ, y :: σ', _, _, .no r, l, h => .no (r.congr (by simpa using l) fun i o q => by simpa using h (i + 1) o (by simpa using q))
  | _ :: σ, y :: σ', _, _, .yes r, l, h => by
    have h0 := h 0 _ rfl
    simp at h0
    subst h0
    exact .yes (r.congr (by simpa using l) fun i o q => by simpa using h (i + 1) o (by simpa using q))
theorem fgt_get : ∀ (is : List Nat) {ρ : Rho} {j : Nat} {o : OV}, (fgt is ρ)[j]? = some (some o) → j ∉ is
  | [], _, _, _, _ => by simp
  | i :: is, ρ, j, o, h => by
    have h1 := fgt_get is (ρ := ρ.set i none) h
    intro hm
    rcases List.mem_cons.mp hm with e | hm
    · subst e
      have : ∀ (is : List Nat) (ρ : Rho), (fgt is ρ)[j]? = some (some o) → ρ[j]? = some (some o) := by
        intro is
        induction is with
        | nil => intro ρ h; exact h
        | cons k is ih =>
          intro ρ h
          have := ih (ρ.set k none) h
          by_cases e : k = j
          · subst e
            by_cases hl : k < ρ.length
            · rw [List.getElem?_set_self hl] at this; cases this
            · rw [List.getElem?_eq_none (by simpa using hl)] at this; cases this
          · rw [List.getElem?_set_ne e] at this; exact this
      have h2 := this is (ρ.set j none) h
      by_cases hl : j < ρ.length
      · rw [List.getElem?_set_self hl] at h2; cases h2
      · rw [List.getElem?_eq_none (by simpa using hl)] at h2; cases h2
    · exact h1 hm
section
variable {K : PySem.W.Frag} {Hf H : Hp} {T : Its} {F : Bs} {σ σ' : St} {ρ : Rho} {is : List Nat} {i : Nat} {d : PyData}
theorem SI.rewipe (s : SI K Hf T (Ev.fgt is ρ) F σ H) (e : wipe σ' is = wipe σ is) : SI K Hf T (Ev.fgt is ρ) F σ' H := by
  obtain ⟨its, h, s⟩ := s.ex
  have hl : σ'.length = σ.length := by rw [← wipe_length σ' is, e, wipe_length]
  refine ⟨its, h.congr hl fun j o q => ?_, s⟩
  have hj := fgt_get is q
  have := congrArg (·[j]?) e
  simp only [wipe_get] at this
  rw [if_neg (fun z => hj z.1), if_neg (fun z => hj z.1)] at this
  exact this
theorem wipe_wipe (σ : St) (is : List Nat) : wipe (wipe σ is) is = wipe σ is := by
  apply List.ext_getElem?
  intro j
  rw [wipe_get, wipe_length, wipe_get]
  by_cases hj : j ∈ is ∧ j < σ.length
  · rw [if_pos hj, if_pos hj]
  · rw [if_neg hj, if_neg hj]
/-- a shared slot, read -/
theorem SI.look (s : SI K Hf T ρ F σ H) (h : ρ[i]? = some (some (.sh d))) : ∃ v, σ[i]? = some (some v) ∧ Rp K Hf v d := by
  obtain ⟨v, h1, s1, _⟩ := s.take h
  exact ⟨v, h1, s1.rp⟩
theorem SI.lay {v : V} (s : SI K Hf T ρ F σ H) (h : σ[i]? = some (some v)) (r : Rp K Hf v d) : SI K Hf T (ρ.set i (some (.sh d))) F σ H := by
  have := SI.put' i (s.add r)
  have e : σ.set i (some v) = σ := by
    apply List.ext_getElem?
    intro j
    by_cases e : i = j
    · subst e
      by_cases hl : i < σ.length
      · rw [List.getElem?_set_self hl, h]
      · rw [List.set_eq_of_length_le (by omega)]
    · rw [List.getElem?_set_ne e]
  rw [e] at this
  exact this
end
/-- the shared slots of a comprehension's own names, as they were -/
def relay : List Nat → Rho → Rho → Rho
  | [], _, ρ => ρ
  | i :: is, ρ0, ρ => match ρ0[i]? with
    | some (some (.sh d)) => relay is ρ0 (ρ.set i (some (.sh d)))
    | _ => relay is ρ0 ρ
theorem SI.relay {K : PySem.W.Frag} {Hf0 Hf H0 H : Hp} {T0 T : Its} {F0 F : Bs} {σ : St} {ρ0 : Rho} (s0 : SI K Hf0 T0 ρ0 F0 σ H0) (sm : Same Hf0 Hf) : ∀ (is : List Nat) {ρ : Rho}, SI K Hf T ρ F σ H → SI K Hf T (relay is ρ0 ρ) F σ H
  | [], _, s => s
  | i :: is, ρ, s => by
    unfold Ev.relay
    split
    · rename_i d q
      obtain ⟨v, h1, r⟩ := s0.look q
      exact SI.relay s0 sm is (s.lay h1 (r.mono (.of sm)))
    · exact SI.relay s0 sm is s
def tYesR (ρ : Rho) : ReB := .ok true ρ
def compL (vs : List Nat) (h : OV → Rho → Option Rho) (tt : Rho → ReB) (te : Rho → Re) : List PyData → Nat → Rho → ReL
  | [], _, ρ => .ok [] ρ
  | d :: ds, k, ρ => match h (.sh d) ρ with
    | none => .stk
    | some ρ1 => match tt ρ1 with
      | .ok true ρ2 => match te ρ2 with
        | .ok o ρ3 => if k < sizeLine then (match compL vs h tt te ds (k + 1) (fgt vs ρ3) with
          | .ok os ρ4 => .ok (o :: os) ρ4
          | _ => .stk) else .stk
        | _ => .stk
      | .ok false ρ2 => compL vs h tt te ds k (fgt vs ρ2)
      | _ => .stk
/-- vs: the slots of the comprehension's own names -/
def eLc (vs : List Nat) (fi : Rho → ReI) (h : OV → Rho → Option Rho) (tt : Rho → ReB) (te : Rho → Re) (ρ : Rho) : Re := match fi ρ with
  | .ok ds ρ1 => match compL vs h tt te ds 0 (fgt vs ρ1) with
    | .ok os ρ2 => .ok (.lst os) (relay vs ρ1 ρ2)
    | _ => .stk
  | .exc e ρ1 => .exc e ρ1
  | .stk => .stk
section
variable {X : Cx} {W : WX} {elt tg iter c : Expr} {ifs : List Expr} {scope : Scope} {own : List (Str × Nat)} {pos : Pos} {fi : Rho → ReI} {h : OV → Rho → Option Rho} {tt : Rho → ReB} {te : Rho → Re} {m : Nat}
def EvTs (X : Cx) (W : WX) (ifs : List Expr) (f : Rho → ReB) : Prop := PTs X ifs (tT X W f)
theorem pts_w {X : Cx} {e : List Expr} {t t' : TT} (h : PTs X e t) (hw : ∀ σ H Q, t' σ H Q → t σ H Q) : PTs X e t' := ⟨fun pins s σ H Q I h' => h.run pins s σ H Q I (hw σ H Q h')⟩
theorem ets_nil : EvTs X W [] tYesR := pts_w pts_nil fun σ H Q ⟨Hf, T, ρ, F, s, h⟩ => h H Hf (Same.refl _) s
theorem ets_one {f : Rho → ReB} (h : EvT X W c f) : EvTs X W [c] f := pts_one h
theorem lc_post (vs : List Nat) {σ : St} {H : Hp} {Q : VK} {Hf : Hp} {T : Its} {ρ : Rho} {F : Bs} (s : SI X.K Hf T ρ F σ H) (hh : PostE X W Hf T F σ (eLc vs fi h tt te ρ) Q) :
    tLc (tI X W fi) (tG X vs h) (tT X W0 tt) (tE X W0 te) vs σ H Q := by
  refine ⟨Hf, T, ρ, F, s, ?_⟩
  unfold eLc at hh
  cases q : fi ρ with
  | exc e ρ1 => rw [q] at hh; exact hh
  | stk => rw [q] at hh; exact hh
  | ok ds ρ1 =>
    rw [q] at hh
    simp only at hh
    intro J H1 Hf1 sm1 s1 wd D hD
    -- what is to come, from the i-th item on
    let Rest : Nat → List OV → Rho → Prop := fun i acc ρi => ∃ os ρe, compL vs h tt te (ds.drop i) acc.length ρi = .ok os ρe ∧ PostE X W Hf1 T F σ (.ok (.lst (acc ++ os)) (relay vs ρ1 ρe)) Q
    have start : Rest 0 [] (fgt vs ρ1) := by
      cases q2 : compL vs h tt te ds 0 (fgt vs ρ1) with
      | ok os ρe => rw [q2] at hh; exact ⟨os, ρe, q2, PostE.mono sm1 hh⟩
      | exc e ρe => rw [q2] at hh; exact hh.elim
      | stk => rw [q2] at hh; exact hh.elim
    refine ⟨fun i m H => m = ds.length - i ∧ i ≤ ds.length ∧ ∃ Hf2 ρ2 acc, Same Hf1 Hf2 ∧ SI X.K Hf2 ((.ref D, .lst acc) :: T) (fgt vs ρ2) F (wipe σ vs) H ∧ Rest i acc (fgt vs ρ2), ⟨ds.length, rfl, Nat.zero_le _, Hf1, ρ1, [], Same.refl _, ?_, start⟩, ?_⟩
    · have s2 := (s1.fgt vs).rewipe (wipe_wipe σ vs)
      obtain ⟨its, hs, s3⟩ := s2.ex
      exact ⟨its, hs, SX.newOwn (C := []) s3 hD fun bs hb => by cases hb; exact .lst .nil⟩
    rintro i m H2 ⟨rfl, hi, Hf2, ρ2, acc, sm2, s2, rest⟩
    have ext : Ext Hf1 H2 := Same.ext sm2 s2.sub
    by_cases hlt : i < ds.length
    · have hdrop : ds.drop i = ds[i] :: ds.drop (i + 1) := List.drop_eq_getElem_cons hlt
      obtain ⟨os, ρe, hc, hp⟩ := rest
      rw [hdrop] at hc
      unfold compL at hc
      refine .inr ⟨wd.goes i H2 hlt ext, fun H' => ∃ Hf3 ρ3 acc', Same Hf1 Hf3 ∧ SI X.K Hf3 ((.ref D, .lst acc') :: T) (fgt vs ρ3) F (wipe σ vs) H' ∧ Rest (i + 1) acc' (fgt vs ρ3), fun H' ⟨Hf3, ρ3, acc', a1, a2, a3⟩ => ⟨ds.length - (i + 1), by omega, rfl, hlt, Hf3, ρ3, acc', a1, a2, a3⟩, fun y H' hy => ?_⟩
      obtain ⟨d, hd, hy⟩ := wd.yields i H2 y H' hlt ext hy
      have ed : d = ds[i] := by
        rw [List.getElem?_eq_getElem hlt] at hd
        exact (Option.some.inj hd).symm
      subst ed
      have base : ∃ Hf3, Same Hf2 Hf3 ∧ SI X.K Hf3 ((y, .sh ds[i]) :: (.ref D, .lst acc) :: T) (fgt vs ρ2) F (wipe σ vs) H' := by
        rcases hy with ⟨rfl, r⟩ | ⟨U, xs, es, rfl, hU, rfl, r, e⟩
        · exact ⟨Hf2, Same.refl _, s2.add (r.mono (.of sm2))⟩
        · obtain ⟨its, hs', s3⟩ := s2.ex
          obtain ⟨s4, sm4⟩ := s3.mkTup (r.mono (.of sm2)) hU
          rw [e]
          exact ⟨_, sm4, its, hs', s4⟩
      obtain ⟨Hf3, sm3, s3⟩ := base
      refine ⟨Hf3, (.ref D, .lst acc) :: T, fgt vs ρ2, F, .sh ds[i], s3, ?_⟩
      cases q2 : h (.sh ds[i]) (fgt vs ρ2) with
      | none => simp only [q2] at hc; cases hc
      | some ρ3 =>
        simp only [q2] at hc
        refine fun σ4 H4 Hf4 ew sm4 s4 => ⟨by rw [ew, wipe_wipe], Hf4, (.ref D, .lst acc) :: T, ρ3, F, s4, ?_⟩
        have ew' : wipe (wipe σ vs) vs = wipe σ4 vs := ew.symm
        cases q3 : tt ρ3 with
        | exc e ρ4 => simp only [q3] at hc; cases hc
        | stk => simp only [q3] at hc; cases hc
        | ok b ρ4 =>
          intro H5 Hf5 sm5 s5
          cases b with
          | false =>
            simp only [q3] at hc
            rw [if_neg Bool.false_ne_true]
            exact ⟨Hf5, ρ4, acc, sm2.trans (sm3.trans (sm4.trans sm5)), (s5.fgt vs).rewipe ew', os, ρe, hc, hp⟩
          | true =>
            simp only [q3] at hc
            rw [if_pos rfl]
            refine ⟨Hf5, (.ref D, .lst acc) :: T, ρ4, F, s5, ?_⟩
            cases q4 : te ρ4 with
            | exc e ρ5 => simp only [q4] at hc; cases hc
            | stk => simp only [q4] at hc; cases hc
            | ok o ρ5 =>
              simp only [q4] at hc
              by_cases hz : acc.length < sizeLine
              · rw [if_pos hz] at hc
                cases q5 : compL vs h tt te (ds.drop (i + 1)) (acc.length + 1) (fgt vs ρ5) with
                | exc e ρ6 => simp only [q5] at hc; cases hc
                | stk => simp only [q5] at hc; cases hc
                | ok os' ρ6 =>
                  simp only [q5] at hc
                  cases hc
                  intro v H6 Hf6 sm6 s6
                  obtain ⟨its, hs, s7⟩ := s6.ex
                  have s8 := s7.perm (List.Perm.swap (.ref D, .lst acc) (v, o) (T ++ its))
                  obtain ⟨xs, hl, hDD, s9⟩ := s8.push
                  refine ⟨xs, hDD, by rw [hl]; exact hz, Hf6, ρ5, acc ++ [o], sm2.trans (sm3.trans (sm4.trans (sm5.trans sm6))), SI.rewipe (SI.fgt vs ⟨its, hs, s9⟩) ew', os', ρe, ?_, ?_⟩
                  · rw [List.length_append]; exact q5
                  · rw [List.append_assoc]; exact hp
              · rw [if_neg hz] at hc; cases hc
    · have e : i = ds.length := by omega
      subst e
      refine .inl ⟨wd.stops H2 ext, ?_⟩
      obtain ⟨os, ρe, hc, hp⟩ := rest
      rw [List.drop_length] at hc
      cases hc
      rw [List.append_nil] at hp
      have s3 : SI X.K Hf2 ((.ref D, .lst acc) :: T) (fgt vs ρ2) F σ H2 := s2.rewipe (wipe_wipe σ vs).symm
      exact hp (.ref D) H2 Hf2 sm2 (SI.relay s1 sm2 vs s3)
theorem ev_lc (G : Good X W m) (hi : EvI X W tg iter fi) (ok : BlkOk X.N X.env.scope scope own)
    (hg : ∀ (s : Shared) (H : Hp) (C : Addr) (cl : List (Str × Addr)) (fp : List Addr), EvG (X.blk s H scope (compEnvC scope cl C X.env) fp) (own.map fun p : Str × Nat => p.2) tg h)
    (ht : ∀ (s : Shared) (H : Hp) (C : Addr) (cl : List (Str × Addr)) (fp : List Addr), EvTs (X.blk s H scope (compEnvC scope cl C X.env) fp) W0 ifs tt)
    (he : ∀ (s : Shared) (H : Hp) (C : Addr) (cl : List (Str × Addr)) (fp : List Addr), EvE (X.blk s H scope (compEnvC scope cl C X.env) fp) W0 elt te) (hs : ∀ x, foldedSetIterable iter X.env x = pure x := by intro _; rfl) :
    EvE X W (.ListComp elt [⟨tg, iter, ifs, 0⟩] scope pos) (eLc (own.map fun p : Str × Nat => p.2) fi h tt te) :=
  pe_w (pe_lc (g := tG X (own.map fun p : Str × Nat => p.2) h) (tt := tT X W0 tt) (te := tE X W0 te) G.calm G.nd hi ok hg ht he hs) fun σ H Q ⟨Hf, T, ρ, F, s, hh⟩ => lc_post _ s hh
/-- y = [..] -/
theorem es_setLc {i : Nat} {y : Str} {py spos : Pos} (G : Good X W m) (hy : X.N[i]? = some y) (hyl : X.env.scope.names.lookup y = some .local)
    (hsw : swapsWith (.ListComp elt [⟨tg, iter, ifs, 0⟩] scope pos) (some (.Name y py)) spos.line X.env = pure true) (hi : EvI X W tg iter fi) (ok : BlkOk X.N X.env.scope scope own)
    (hg : ∀ (s : Shared) (H : Hp) (C : Addr) (cl : List (Str × Addr)) (fp : List Addr), EvG (X.blk s H scope (compEnvC scope cl C X.env) fp) (own.map fun p : Str × Nat => p.2) tg h)
    (ht : ∀ (s : Shared) (H : Hp) (C : Addr) (cl : List (Str × Addr)) (fp : List Addr), EvTs (X.blk s H scope (compEnvC scope cl C X.env) fp) W0 ifs tt)
    (he : ∀ (s : Shared) (H : Hp) (C : Addr) (cl : List (Str × Addr)) (fp : List Addr), EvE (X.blk s H scope (compEnvC scope cl C X.env) fp) W0 elt te) (hs : ∀ x, foldedSetIterable iter X.env x = pure x := by intro _; rfl) :
    EvS X W (.Assign [.Name y py] (.ListComp elt [⟨tg, iter, ifs, 0⟩] scope pos) spos) (sSet i (eLc (own.map fun p : Str × Nat => p.2) fi h tt te)) :=
  ps_w (ps_setLc (g := tG X (own.map fun p : Str × Nat => p.2) h) (tt := tT X W0 tt) (te := tE X W0 te) G.calm G.nd hy hyl hsw hi ok hg ht he hs) fun D σ H ⟨Hf, ρ, F, s, hh⟩ => by
    have z : tE X W (eLc (own.map fun p : Str × Nat => p.2) fi h tt te) σ H fun v H1 => gName i v σ H1 D.nx :=
      ⟨Hf, [], ρ, F, s, PostE.bindS hh fun o ρ1 v H1 Hf1 sm s1 h1 => h1 _ H1 Hf1 (Same.refl _) (s1.put' i)⟩
    obtain ⟨Hf', T', ρ', F', s', h'⟩ := z
    exact lc_post _ s' h'
end
end Ev
namespace Ev
open PySem PySem.Spec L2
open PyProof.Rows hiding St

/-! ### an owned list or dict is changed -/
def putG {κ α : Type} [DecidableEq κ] : List (κ × α) → κ → α → List (κ × α)
  | [], k, x => [(k, x)]
  | (k', y) :: r, k, x => if k' = k then (k', x) :: r else (k', y) :: putG r k x
theorem putK_eq {κ : Type} [DecidableEq κ] (k : κ) (v : V) : ∀ {kvs : List (κ × V)}, (kvs.map (·.1)).Nodup → putK kvs k v = putG kvs k v
  | [], _ => rfl
  | (k', y) :: r, n => by
    have n' := List.nodup_cons.mp (show (k' :: r.map (·.1)).Nodup from n)
    have ih := putK_eq k v n'.2
    unfold putG
    by_cases e : k' = k
    · subst e
      rw [if_pos rfl]
      unfold putK
      rw [if_pos (by simp)]
      rw [List.map_cons, if_pos rfl]
      have : r.map (fun kv : κ × V => if kv.1 = k' then (kv.1, v) else kv) = r := by
        conv => rhs; rw [← List.map_id r]
        refine List.map_congr_left fun p hp => ?_
        rw [if_neg]
        · rfl
        · intro z; exact n'.1 (by rw [← z]; exact List.mem_map.mpr ⟨p, hp, rfl⟩)
      rw [this]
    · rw [if_neg e, ← ih]
      unfold putK
      by_cases h : (r.any fun kv => decide (kv.1 = k)) = true
      · rw [if_pos h, if_pos (by rw [List.any_cons, h, Bool.or_true]), List.map_cons, if_neg e]
      · rw [if_neg h, if_neg (by rw [List.any_cons, decide_eq_false e, Bool.false_or]; exact h)]
        rfl
section
variable {K : PySem.W.Frag} {Hf H : Hp} {its : Its} {F bs : Bs} {v : V} {o : OV} {a : Addr}
theorem ownL_put {κ : Type} [DecidableEq κ] (k : κ) {b : Bs} (hv : Own K Hf v o b) : ∀ {ks : List κ} {vs : List V} {os : List OV} {bs : Bs}, ks.Nodup → ks.length = vs.length → OwnL K Hf vs os bs →
    ∃ (ks' : List κ) (vs' : List V) (os' : List OV) (cs dr : Bs), ks'.Nodup ∧ (∀ x, x ∈ ks' ↔ x ∈ ks ∨ x = k) ∧ ks'.length = vs'.length ∧ putG (ks.zip vs) k v = ks'.zip vs' ∧ putG (ks.zip os) k o = ks'.zip os' ∧ OwnL K Hf vs' os' cs ∧ (cs ++ dr).Perm (bs ++ b)
  | [], [], _, _, _, _, .nil => ⟨[k], [v], [o], b ++ [], [], by simp, by simp, rfl, rfl, rfl, .cons hv .nil, by simp⟩
  | k' :: ks, w :: vs, p :: os, _, n, l, .cons (b1 := b1) (b2 := b2) h r => by
    have n' := List.nodup_cons.mp n
    by_cases e : k' = k
    · subst e
      refine ⟨k' :: ks, v :: vs, o :: os, b ++ b2, b1, n, fun x => by simp [or_comm], l, ?_, ?_, .cons hv r, ?_⟩
      · simp [putG]
      · simp [putG]
      · have h1 : (b ++ b2 ++ b1).Perm (b1 ++ (b ++ b2)) := List.perm_append_comm
        have h2 : (b1 ++ (b ++ b2)).Perm (b1 ++ (b2 ++ b)) := List.Perm.append_left _ List.perm_append_comm
        have h3 := h1.trans h2
        simpa [List.append_assoc] using h3
    · obtain ⟨ks', vs', os', cs, dr, m, mm, l', e1, e2, h', q⟩ := ownL_put k hv (ks := ks) (vs := vs) (os := os) n'.2 (by simpa using l) r
      refine ⟨k' :: ks', w :: vs', p :: os', b1 ++ cs, dr, ?_, fun x => ?_, by simp [l'], ?_, ?_, .cons h h', ?_⟩
      · exact List.nodup_cons.mpr ⟨fun z => by
          rcases (mm k').mp z with z | z
          · exact n'.1 z
          · exact e z, m⟩
      · rw [List.mem_cons, List.mem_cons, mm x, or_assoc]
      · simp [putG, e, e1]
      · simp [putG, e, e2]
      · rw [List.append_assoc, List.append_assoc]
        exact q.append_left b1
theorem SX.setAt {os : List OV} {i : Nat} (hi : i < os.length) (s : SX K Hf ((.ref a, .lst os) :: (v, o) :: its) F H) : ∃ vs, vs.length = os.length ∧ H a = some (.lst vs) ∧ SX K Hf ((.ref a, .lst (os.set i o)) :: its) F (upd H a (.lst (vs.set i v))) := by
  obtain ⟨u, u', h1, ⟨vs, rfl, rfl, hl⟩, h2⟩ := SX.chg (C := [(v, o)]) (o' := .lst (os.set i o)) (fun u u' => ∃ vs, u = .lst vs ∧ u' = .lst (vs.set i v) ∧ vs.length = os.length) s (fun bs q => by
    cases q with
    | @lst _ vs _ b0 q =>
      refine ⟨_, _, rfl, fun c1 hc => ?_⟩
      cases hc with
      | @cons _ _ _ b _ hc hr =>
        cases hr
        obtain ⟨w, c0, d1, c2, _, rfl, _, f⟩ := q.split (List.getElem?_eq_getElem hi)
        refine ⟨.lst (vs.set i v), c0 ++ b ++ c2, d1, ?_, .lst (f o b v hc), vs, rfl, rfl, q.len⟩
        rw [List.append_nil]
        have h1 : (c0 ++ b ++ c2 ++ d1).Perm (c0 ++ (d1 ++ (c2 ++ b))) := by
          rw [List.append_assoc, List.append_assoc]
          refine List.Perm.append_left _ ?_
          have : (b ++ (c2 ++ d1)).Perm ((c2 ++ d1) ++ b) := List.perm_append_comm
          refine this.trans ?_
          rw [← List.append_assoc]
          exact List.Perm.append_right _ List.perm_append_comm
        simpa [List.append_assoc] using h1)
  exact ⟨vs, hl, h1, h2⟩
theorem SX.putDK {kvs : List (Key × OV)} (k : Key) (s : SX K Hf ((.ref a, .dk kvs) :: (v, o) :: its) F H) : ∃ kv, kv.length = kvs.length ∧ H a = some (.dK kv) ∧ SX K Hf ((.ref a, .dk (putG kvs k o)) :: its) F (upd H a (.dK (putK kv k v))) := by
  obtain ⟨u, u', h1, ⟨kv, rfl, rfl, hl⟩, h2⟩ := SX.chg (C := [(v, o)]) (o' := .dk (putG kvs k o)) (fun u u' => ∃ kv, u = .dK kv ∧ u' = .dK (putK kv k v) ∧ kv.length = kvs.length) s (fun bs q => by
    cases q with
    | @dk _ ks vs os b0 l nd q =>
      refine ⟨_, _, rfl, fun c1 hc => ?_⟩
      cases hc with
      | @cons _ _ _ b _ hc hr =>
        cases hr
        obtain ⟨ks', vs', os', cs, dr, m, _, l', e1, e2, h', qq⟩ := ownL_put k hc nd l q
        refine ⟨.dK (ks'.zip vs'), cs, dr, by simpa using qq, ?_, ks.zip vs, rfl, ?_, ?_⟩
        · rw [e2]; exact .dk l' m h'
        · rw [putK_eq k v (by rw [zip_fst_map (fun x => x) ks vs l]; simpa using nd), e1]
        · simp [l, q.len])
  exact ⟨kv, hl, h1, h2⟩
theorem SX.putDT {kvs : List (List Key × OV)} (k : List Key) (s : SX K Hf ((.ref a, .dt kvs) :: (v, o) :: its) F H) : ∃ kv, kv.length = kvs.length ∧ H a = some (.dT kv) ∧ SX K Hf ((.ref a, .dt (putG kvs k o)) :: its) F (upd H a (.dT (putK kv k v))) := by
  obtain ⟨u, u', h1, ⟨kv, rfl, rfl, hl⟩, h2⟩ := SX.chg (C := [(v, o)]) (o' := .dt (putG kvs k o)) (fun u u' => ∃ kv, u = .dT kv ∧ u' = .dT (putK kv k v) ∧ kv.length = kvs.length) s (fun bs q => by
    cases q with
    | @dt _ ks vs os b0 l nd q =>
      refine ⟨_, _, rfl, fun c1 hc => ?_⟩
      cases hc with
      | @cons _ _ _ b _ hc hr =>
        cases hr
        obtain ⟨ks', vs', os', cs, dr, m, _, l', e1, e2, h', qq⟩ := ownL_put k hc nd l q
        refine ⟨.dT (ks'.zip vs'), cs, dr, by simpa using qq, ?_, ks.zip vs, rfl, ?_, ?_⟩
        · rw [e2]; exact .dt l' m h'
        · rw [putK_eq k v (by rw [zip_fst_map (fun x => x) ks vs l]; simpa using nd), e1]
        · simp [l, q.len])
  exact ⟨kv, hl, h1, h2⟩
/-- the items ds are added behind -/
theorem SX.more {os : List OV} {ys : List V} {ds : List PyData} (s : SX K Hf ((.ref a, .lst os) :: its) F H) (r : RpAll K Hf ys ds) : ∃ vs, vs.length = os.length ∧ H a = some (.lst vs) ∧ SX K Hf ((.ref a, .lst (os ++ ds.map .sh)) :: its) F (upd H a (.lst (vs ++ ys))) := by
  obtain ⟨u, u', h1, ⟨vs, rfl, rfl, hl⟩, h2⟩ := SX.chg (C := []) (o' := .lst (os ++ ds.map .sh)) (fun u u' => ∃ vs, u = .lst vs ∧ u' = .lst (vs ++ ys) ∧ vs.length = os.length) s (fun bs q => by
    cases q with
    | @lst _ vs _ b0 q =>
      refine ⟨_, _, rfl, fun c1 hc => ?_⟩
      cases hc
      exact ⟨.lst (vs ++ ys), _, [], by simp, .lst (q.append (.of_rp r)), vs, rfl, rfl, q.len⟩)
  exact ⟨vs, hl, h1, h2⟩
/-- a list's items stand for themselves -/
theorem SX.unlist {os : List OV} (s : SX K Hf ((.ref a, .lst os) :: its) F H) : ∃ vs, vs.length = os.length ∧ H a = some (.lst vs) ∧ SX K Hf (vs.zip os ++ its) F H := by
  obtain ⟨⟨bs, h, n, al⟩, e⟩ := s
  cases h with
  | @cons _ _ _ b1 b2 h r =>
    cases h with
    | @lst _ vs _ b0 q =>
      refine ⟨vs, q.len, (al (a, .lst vs) (by simp)).1, ⟨b0 ++ b2, q.its.append r, ?_, fun p hp => al p ?_⟩, e⟩
      · have n' : (a :: ((b0 ++ b2 ++ F).map (·.1))).Nodup := by simpa using n
        exact (List.nodup_cons.mp n').2
      · have : p ∈ (a, HO.lst vs) :: (b0 ++ b2 ++ F) := List.mem_cons_of_mem _ hp
        simpa using this
theorem SX.kref {kvs : List (Key × OV)} (s : SX K Hf ((v, .dk kvs) :: its) F H) : ∃ a kv, v = .ref a ∧ H a = some (.dK kv) := by
  obtain ⟨⟨bs, h, n, al⟩, e⟩ := s
  cases h with
  | cons h r => cases h; exact ⟨_, _, rfl, (al _ (List.mem_append_left _ (List.mem_append_left _ List.mem_cons_self))).1⟩
theorem SX.tref {kvs : List (List Key × OV)} (s : SX K Hf ((v, .dt kvs) :: its) F H) : ∃ a kv, v = .ref a ∧ H a = some (.dT kv) := by
  obtain ⟨⟨bs, h, n, al⟩, e⟩ := s
  cases h with
  | cons h r => cases h; exact ⟨_, _, rfl, (al _ (List.mem_append_left _ (List.mem_append_left _ List.mem_cons_self))).1⟩
end

/-! ### methods that change their object -/
/-- o: the object, os: the arguments; the object behind, the answer -/
def OpM (K : PySem.W.Frag) (r : V → List V → Hp → VK → Prop) (g : OV → List OV → Option (OV × OV)) : Prop :=
  ∀ (Hf : Hp) (its : Its) (F : Bs) (H : Hp) (v : V) (o : OV) (vs : List V) (os : List OV) (o' res : OV) (Q : VK), vs.length = os.length → SX K Hf ((v, o) :: (vs.zip os ++ its)) F H → g o os = some (o', res) →
    (∀ x H' Hf', Same Hf Hf' → SX K Hf' ((x, res) :: (v, o') :: its) F H' → Q x H') → r v vs H Q
def ownT : OV → String
  | .lst _ => "list"
  | .dk _ => "dict"
  | .dt _ => "dict"
  | .sh _ => ""
theorem tyV_own {K : PySem.W.Frag} {Hf H : Hp} {its : Its} {F : Bs} {v : V} {o : OV} (s : SX K Hf ((v, o) :: its) F H) (h : ownT o ≠ "") : tyV K (ownT o) v H := by
  cases o with
  | sh d => exact absurd rfl h
  | lst os =>
    obtain ⟨a, rfl⟩ := s.lstRef
    obtain ⟨vs, _, h1⟩ := s.lstAt
    exact .inl ⟨rfl, vs, SqL.of h1⟩
  | dk kvs =>
    obtain ⟨a, kv, rfl, h1⟩ := s.kref
    exact .inr (.inr (.inl ⟨rfl, .inl ⟨kv, h1⟩⟩))
  | dt kvs =>
    obtain ⟨a, kv, rfl, h1⟩ := s.tref
    exact .inr (.inr (.inl ⟨rfl, .inr ⟨kv, h1⟩⟩))
def ofM (i : Nat) (g : OV → List OV → Option (OV × OV)) (os : List OV) (ρ : Rho) : Re := match ρ[i]? with
  | some (some o) => match g o os with
    | some (o', res) => .ok res (ρ.set i (some o'))
    | none => .stk
  | _ => .stk
def eMut (i : Nat) (T : String) (g : OV → List OV → Option (OV × OV)) (fl : Rho → ReL) (ρ : Rho) : Re := match ρ[i]? with
  | some (some o) => if ownT o = T then bindL (fl ρ) (ofM i g) else .stk
  | _ => .stk
section
variable {X : Cx} {W : WX} {e a b c : Expr} {es : List Expr} {f fa fb fk : Rho → Re} {fl : Rho → ReL} {pos apos cpos : Pos} {n m k : Nat} {x : Str} {name : Str} {T id : String} {r : V → List V → Hp → VK → Prop} {g : OV → List OV → Option (OV × OV)}
theorem mut_post {i : Nat} (ho : OpM X.K r g) {Hf : Hp} {T' : Its} {ρ : Rho} {F : Bs} {σ : St} {H : Hp} {Q : VK} {v : V} {vs : List V} {os : List OV} (hv : σ[i]? = some (some v)) (l : vs.length = os.length) (s : SI X.K Hf (vs.zip os ++ T') ρ F σ H) (h : PostE X W Hf T' F σ (ofM i g os ρ) Q) : r v vs H Q := by
  unfold ofM at h
  cases q : ρ[i]? with
  | none => rw [q] at h; exact h.elim
  | some y =>
    cases y with
    | none => rw [q] at h; exact h.elim
    | some o =>
      simp only [q] at h
      cases q2 : g o os with
      | none => simp only [q2] at h; exact h.elim
      | some p =>
        obtain ⟨o', res⟩ := p
        simp only [q2] at h
        obtain ⟨w, hw, s1, back⟩ := s.take q
        rw [hv] at hw
        obtain rfl : v = w := by injection hw with z; injection z
        obtain ⟨its, hs, s2⟩ := s1.ex
        have e1 : (v, o) :: (vs.zip os ++ T') ++ its = (v, o) :: (vs.zip os ++ (T' ++ its)) := by simp
        rw [e1] at s2
        refine ho Hf (T' ++ its) F H v o vs os o' res Q l s2 q2 fun y H' Hf' sm s3 => h y H' Hf' sm ?_
        have s4 : SX X.K Hf' ((v, o') :: (y, res) :: (T' ++ its)) F H' := s3.perm (List.Perm.swap _ _ _)
        have := SI.put' (T := (y, res) :: T') (o := o') (v := v) i ⟨its, hs, s4⟩
        have e2 : (ρ.set i none).set i (some o') = ρ.set i (some o') := by simp
        have e3 : σ.set i (some v) = σ := by
          apply List.ext_getElem?
          intro j
          by_cases e : i = j
          · subst e
            by_cases hl : i < σ.length
            · rw [List.getElem?_set_self hl, hv]
            · rw [List.set_eq_of_length_le (by omega)]
          · rw [List.getElem?_set_ne e]
        rw [e2, e3] at this
        exact this
/-- x.m(e, ..) -/
theorem ev_mut {i : Nat} (pa : PlainAttrs T) (slot : Slot T name id) (hty : typeOf (.builtin id) = pure (.type "method_descriptor")) (hm : MtR X id r) (ho : OpM X.K r g) (hT : T ≠ "") (hx : PE X b (tVar i)) (ha : EvL X W (e :: es) fl)
    (hp : PE X (.Call (.Attribute b name apos) (e :: es) [] cpos) (tBM X.K T r (tVar i) (tL X W fl))) : EvE X W (.Call (.Attribute b name apos) (e :: es) [] cpos) (eMut i T g fl) := pe_w hp fun σ H Q ⟨Hf, T', ρ, F, s, h⟩ => by
  unfold eMut at h
  cases q : ρ[i]? with
  | none => rw [q] at h; exact h.elim
  | some y =>
    cases y with
    | none => rw [q] at h; exact h.elim
    | some o =>
      simp only [q] at h
      by_cases ht : ownT o = T
      · rw [if_pos ht] at h
        obtain ⟨v, hv, s1, _⟩ := s.take q
        obtain ⟨its, hs, s2⟩ := s1.ex
        refine ⟨v, hv, ?_, Hf, T', ρ, F, s, PostL.bind h fun os ρ1 vs H1 Hf1 l sm s3 h1 => mut_post ho hv l s3 h1⟩
        have := tyV_own (its := T' ++ its) s2 (by rw [ht]; exact hT)
        rw [ht] at this
        exact this
      · rw [if_neg ht] at h; exact h.elim
/-- x.m() -/
theorem ev_mut0 {i : Nat} (ho : OpM X.K r g) (hT : T ≠ "") (hp : PE X (.Call (.Attribute b name apos) [] [] cpos) (tBM0 X.K T r (tVar i))) : EvE X W (.Call (.Attribute b name apos) [] [] cpos) (eMut i T g lNil) := pe_w hp fun σ H Q ⟨Hf, T', ρ, F, s, h⟩ => by
  unfold eMut at h
  cases q : ρ[i]? with
  | none => rw [q] at h; exact h.elim
  | some y =>
    cases y with
    | none => rw [q] at h; exact h.elim
    | some o =>
      simp only [q] at h
      by_cases ht : ownT o = T
      · rw [if_pos ht] at h
        obtain ⟨v, hv, s1, _⟩ := s.take q
        obtain ⟨its, hs, s2⟩ := s1.ex
        refine ⟨v, hv, ?_, mut_post (os := []) ho hv rfl s h⟩
        have := tyV_own (its := T' ++ its) s2 (by rw [ht]; exact hT)
        rw [ht] at this
        exact this
      · rw [if_neg ht] at h; exact h.elim
/-! append, extend, insert, pop -/
def mApp (o : OV) (os : List OV) : Option (OV × OV) := match o, os with
  | .lst xs, [y] => if xs.length < sizeLine then some (.lst (xs ++ [y]), .sh .none) else none
  | _, _ => none
theorem opm_app {K : PySem.W.Frag} : OpM K rAppend mApp := by
  intro Hf its F H v o vs os o' res Q l s h q
  unfold mApp at h
  split at h
  · rename_i xs y
    split at h
    · rename_i hz
      cases h
      match vs, l with
      | [w], _ =>
        obtain ⟨ad, rfl⟩ := s.lstRef
        obtain ⟨ws, hl, h1, s2⟩ := SX.push (its := its) s
        exact ⟨ad, ws, w, rfl, rfl, h1, by rw [hl]; exact hz, q _ _ _ (Same.refl _) (s2.add .non)⟩
    · cases h
  · cases h
def mExt (o : OV) (os : List OV) : Option (OV × OV) := match o, os with
  | .lst xs, [.lst ys] => if xs.length + ys.length ≤ sizeLine then some (.lst (xs ++ ys.map fun y => .sh (fz y)), .sh .none) else none
  | _, _ => none
theorem opm_ext {K : PySem.W.Frag} : OpM K rExtend mExt := by
  intro Hf its F H v o vs os o' res Q l s h q
  unfold mExt at h
  split at h
  · rename_i xs ys
    split at h
    · rename_i hz
      cases h
      match vs, l with
      | [w], _ =>
        obtain ⟨ad, rfl⟩ := s.lstRef
        have s1 : SX K Hf ((w, .lst ys) :: (V.ref ad, .lst xs) :: its) F H := s.perm (List.Perm.swap _ _ _)
        obtain ⟨bd, rfl⟩ := s1.lstRef
        obtain ⟨zs, hl2, h2, s3⟩ := s1.unlist
        obtain ⟨Hf', sm, ra, s5⟩ := SX.freezeAll (its := (V.ref ad, .lst xs) :: its) zs ys Hf hl2 s3
        obtain ⟨ws, hl, h1, s4⟩ := s5.more ra
        rw [List.map_map] at s4
        exact ⟨ad, bd, ws, zs, rfl, rfl, h1, h2, by rw [hl, hl2]; exact hz, q _ _ _ sm (s4.add .non)⟩
    · cases h
  · cases h
def mIns (o : OV) (os : List OV) : Option (OV × OV) := match o, os with
  | .lst xs, [.sh (.int i), .sh d] => if xs.length < sizeLine ∧ 0 ≤ i ∧ i < 2 ^ 63 ∧ xs.all (fun x => match x with | .sh _ => true | _ => false) = true then some (.lst (xs.take i.toNat ++ .sh d :: xs.drop i.toNat), .sh .none) else none
  | _, _ => none
def mPop (o : OV) (os : List OV) : Option (OV × OV) := match o, os with
  | .lst xs, [] => match xs.getLast? with
    | some (.sh d) => some (.lst xs.dropLast, .sh d)
    | _ => none
  | _, _ => none
end
end Ev
namespace Ev
open PySem PySem.Spec L2
open PyProof.Rows hiding St

theorem opm_ins {K : PySem.W.Frag} : OpM K (fun x vs H Q => ∃ (l : Addr) (xs : List V) (i : Int) (y : V), x = .ref l ∧ vs = [.int i, y] ∧ H l = some (.lst xs) ∧ xs.length < sizeLine ∧ 0 ≤ i ∧ i < 2 ^ 63 ∧ Q .non (upd H l (.lst (xs.take i.toNat ++ [y] ++ xs.drop i.toNat)))) mIns := by
  intro Hf its F H v o vs os o' res Q l s h q
  unfold mIns at h
  split at h
  · rename_i xs i d
    split at h
    · rename_i hc
      cases h
      obtain ⟨hz, h0, h1, hall⟩ := hc
      match vs, l with
      | [w, y], _ =>
        obtain ⟨ad, rfl⟩ := s.lstRef
        have sw : SX K Hf ((w, .sh (.int i)) :: (.ref ad, .lst xs) :: (y, .sh d) :: its) F H := s.perm (List.Perm.swap _ _ _)
        have ew := rp_int sw.rp
        subst ew
        have sy : SX K Hf ((y, .sh d) :: (.ref ad, .lst xs) :: its) F H := sw.drop.perm (List.Perm.swap _ _ _)
        have ry := sy.rp
        obtain ⟨u, u', h2, ⟨ws, rfl, rfl, hl⟩, h3⟩ := SX.chg (C := []) (o' := .lst (xs.take i.toNat ++ .sh d :: xs.drop i.toNat)) (fun u u' => ∃ ws, u = .lst ws ∧ u' = .lst (ws.take i.toNat ++ [y] ++ ws.drop i.toNat) ∧ ws.length = xs.length) sy.drop (fun bs qq => by
          cases qq with
          | @lst _ ws _ b0 qq =>
            refine ⟨_, _, rfl, fun c1 hc => ?_⟩
            cases hc
            have sh : ∀ (ws : List V) (xs : List OV) (b0 : Bs), xs.all (fun x => match x with | .sh _ => true | _ => false) = true → OwnL K Hf ws xs b0 → ∃ ds : List PyData, xs = ds.map .sh := by
              intro ws xs
              induction xs generalizing ws with
              | nil => intro _ _ _; exact ⟨[], rfl⟩
              | cons x xs ih =>
                intro b0 ha hb
                rw [List.all_cons, Bool.and_eq_true] at ha
                cases hb with
                | cons hx hr =>
                  obtain ⟨ds, rfl⟩ := ih _ _ ha.2 hr
                  cases x with
                  | sh d => exact ⟨d :: ds, rfl⟩
                  | lst _ => exact absurd ha.1 Bool.false_ne_true
                  | dk _ => exact absurd ha.1 Bool.false_ne_true
                  | dt _ => exact absurd ha.1 Bool.false_ne_true
            obtain ⟨ds, rfl⟩ := sh _ _ _ hall qq
            obtain ⟨ra, rfl⟩ := qq.to_rp
            refine ⟨.lst (ws.take i.toNat ++ [y] ++ ws.drop i.toNat), [], [], by simp, ?_, ws, rfl, rfl, qq.len⟩
            have rr := ((ra.take i.toNat).append (.cons ry .nil)).append (ra.drop i.toNat)
            have := OwnL.of_rp rr
            simp only [List.map_append, List.map_take, List.map_drop, List.map_cons, List.map_nil] at this
            rw [List.append_assoc] at this
            exact .lst (by simpa using this))
        exact ⟨ad, ws, i, y, rfl, rfl, h2, by rw [hl]; exact hz, h0, h1, q _ _ _ (Same.refl _) (h3.add .non)⟩
    · cases h
  · cases h
theorem opm_pop {K : PySem.W.Frag} : OpM K rPop mPop := by
  intro Hf its F H v o vs os o' res Q l s h q
  unfold mPop at h
  split at h
  · rename_i xs
    split at h
    · rename_i d hd
      cases h
      match vs, l with
      | [], _ =>
        have s : SX K Hf ((v, .lst xs) :: its) F H := s
        obtain ⟨ad, rfl⟩ := s.lstRef
        have hx : xs = xs.dropLast ++ [.sh d] := by
          obtain ⟨ys, hy⟩ := List.getLast?_eq_some_iff.mp hd
          rw [hy, List.dropLast_concat]
        obtain ⟨u, u', h2, ⟨ws, y, rfl, rfl, hy, hr⟩, h3⟩ := SX.chg (C := []) (o' := .lst xs.dropLast) (fun u u' => ∃ ws y, u = .lst ws ∧ u' = .lst ws.dropLast ∧ ws[ws.length - 1]? = some y ∧ Rp K Hf y d) s (fun bs qq => by
          cases qq with
          | @lst _ ws _ b0 qq =>
            refine ⟨_, _, rfl, fun c1 hc => ?_⟩
            cases hc
            have split : ∀ (os : List OV) (ws : List V) (b0 : Bs), OwnL K Hf ws (os ++ [.sh d]) b0 → OwnL K Hf ws.dropLast os b0 ∧ ∃ y, ws[ws.length - 1]? = some y ∧ Rp K Hf y d := by
              intro os
              induction os with
              | nil =>
                intro ws b0 hb
                cases hb with
                | cons hx hr => cases hr; cases hx with | sh r => exact ⟨.nil, _, rfl, r⟩
              | cons o os ih =>
                intro ws b0 hb
                cases hb with
                | @cons w ws _ _ b1 b2 hx hr =>
                  obtain ⟨i1, y, i2, i3⟩ := ih _ _ hr
                  have hne : ws ≠ [] := fun e => by subst e; cases os <;> cases hr
                  refine ⟨?_, y, ?_, i3⟩
                  · rw [List.dropLast_cons_of_ne_nil hne]; exact .cons hx i1
                  · have : ws.length ≠ 0 := fun e => hne (List.eq_nil_of_length_eq_zero e)
                    obtain ⟨k, hk⟩ : ∃ k, ws.length = k + 1 := ⟨ws.length - 1, by omega⟩
                    rw [hk] at i2
                    rw [List.length_cons, hk]
                    simpa using i2
            rw [hx] at qq
            obtain ⟨q1, y, q2, q3⟩ := split _ _ _ qq
            exact ⟨.lst ws.dropLast, b0, [], by simp, .lst q1, ws, y, rfl, rfl, q2, q3⟩)
        exact ⟨ad, ws, y, rfl, rfl, h2, hy, q _ _ _ (Same.refl _) (h3.add hr)⟩
    · cases h
  · cases h
section
variable {X : Cx} {W : WX} {e a b c : Expr} {es : List Expr} {f fa fb fk : Rho → Re} {fl : Rho → ReL} {p pos apos cpos : Pos} {n m k : Nat} {x : Str}
theorem es_app {i : Nat} (hx : PE X b (tVar i)) (he : EvE X W e f) (hbase : attributeBase b "append" X.env (eval b X.env) = eval b X.env := by rfl) (hst : starEach [e] X.env = (false, eval e X.env) :: starEach [] X.env := by rfl)
    (hp : PE X (.Call (.Attribute b "append" apos) [e] [] cpos) (tBM X.K "list" rAppend (tVar i) (tL X W (lCons f lNil)))) : EvE X W (.Call (.Attribute b "append" apos) [e] [] cpos) (eMut i "list" mApp (lCons f lNil)) :=
  ev_mut (name := "append") PySem.F.plainAttrs_list PySem.F.slot_list_append PySem.F.type_list_append mt_append opm_app (by decide) hx (el_cons he el_nil hst) hp

/-! ### slices -/
def tPo (X : Cx) (W : WX) : Option (Rho → Re) → TO
  | none => tNoPart
  | some f => tPart (tE X W f)
def EvO (X : Cx) (W : WX) (e : Option Expr) (f : Option (Rho → Re)) : Prop := PO X e (tPo X W f)
theorem eo_none : EvO X W none none := po_none
theorem eo_some (h : EvE X W e f) : EvO X W (some e) (some f) := po_some h
def partR (f : Option (Rho → Re)) (ρ : Rho) (k : Option Int → Rho → Re) : Re := match f with
  | none => k none ρ
  | some f => bindE (f ρ) fun o ρ1 => match o with
    | .sh (.int i) => k (some i) ρ1
    | _ => .stk
theorem part_post {fo : Option (Rho → Re)} {Hf : Hp} {T T' : Its} {ρ : Rho} {F : Bs} {σ : St} {H : Hp} {Q : VK} {kk : Option Int → Rho → Re} {Q1 : Option Int → Hp → Prop} (s : SI X.K Hf T' ρ F σ H) (h : PostE X W Hf T F σ (partR fo ρ kk) Q)
    (hk : ∀ i ρ1 H1 Hf1, Same Hf Hf1 → SI X.K Hf1 T' ρ1 F σ H1 → PostE X W Hf1 T F σ (kk i ρ1) Q → Q1 i H1) : tPo X W fo σ H Q1 := by
  cases fo with
  | none => exact hk none ρ H Hf (Same.refl _) s h
  | some f =>
    refine ⟨Hf, T', ρ, F, s, PostE.bind h fun o ρ1 v H1 Hf1 sm s1 h1 => ?_⟩
    cases o with
    | sh d =>
      cases d with
      | int i =>
        have e := rp_int s1.rp
        subst e
        exact ⟨i, rfl, hk (some i) ρ1 H1 Hf1 sm s1.drop h1⟩
      | _ => exact h1.elim
    | _ => exact h1.elim
def cutD {α : Type} (xs : List α) (lo hi : Option Int) : List α := (xs.drop (HT.sIx xs.length 0 lo)).take (HT.sIx xs.length xs.length hi - HT.sIx xs.length 0 lo)
theorem rpAll_cut {K : PySem.W.Frag} {H : Hp} {vs : List V} {ds : List PyData} (r : RpAll K H vs ds) (lo hi : Option Int) : RpAll K H (cutV vs lo hi) (cutD ds lo hi) := by
  unfold cutV cutD
  rw [r.len]
  exact (r.drop _).take _
def gSl (a : OV) (lo hi : Option Int) : Option OV := match fz a with
  | .list ds => some (.lst ((cutD ds lo hi).map .sh))
  | .tuple ds => some (.sh (.tuple (cutD ds lo hi)))
  | .str z => if z.length ≤ sizeLine then some (.sh (.str (cutS z lo hi))) else none
  | _ => none
def eSl (fa : Rho → Re) (lo hi : Option (Rho → Re)) (ρ : Rho) : Re := bindE (fa ρ) fun a ρ1 => partR lo ρ1 fun l ρ2 => partR hi ρ2 fun h ρ3 => ofO (gSl a l h) ρ3
theorem ev_sl {lo hi : Option Expr} {fl fh : Option (Rho → Re)} {p2 : Pos} (ha : EvE X W a fa) (hl : EvO X W lo fl) (hh : EvO X W hi fh) : EvE X W (.Subscript a (.Slice lo hi none p2) pos) (eSl fa fl fh) :=
  pe_w (pe_slice (sl_list.or (sl_tupA.or sl_str)) ha hl hh) fun σ H Q ⟨Hf, T, ρ, F, s, h⟩ => by
    refine ⟨Hf, T, ρ, F, s, PostE.bind h fun o ρ1 v H1 Hf1 sm s1 h1 => ?_⟩
    refine part_post s1 h1 fun l ρ2 H2 Hf2 sm2 s2 h2 => ?_
    refine part_post s2 h2 fun u ρ3 H3 Hf3 sm3 s3 h3 => ?_
    obtain ⟨Hf4, sm4, s4⟩ := s3.freeze
    unfold gSl at h3
    cases hd : fz o with
    | list ds =>
      rw [hd] at s4
      simp only [hd, ofO] at h3
      obtain ⟨ad, xs, rfl, t1, r1⟩ := s4.rp.sqL
      refine .inl ⟨ad, xs, rfl, s4.sub.sqL t1, fun q hq => ?_⟩
      obtain ⟨its, hs, s5⟩ := s4.drop.ex
      exact h3 _ _ _ sm4 ⟨its, hs, s5.mkLst (rpAll_cut r1 l u) hq⟩
    | tuple ds =>
      rw [hd] at s4
      simp only [hd, ofO] at h3
      obtain ⟨ad, xs, rfl, t1, r1⟩ := s4.rp.sqT
      refine .inr (.inl ⟨ad, xs, rfl, s4.sub.sqT t1, fun hw => ?_, fun hw q hq => ?_⟩)
      · have e : cutD ds l u = ds := by
          unfold cutD
          rw [← r1.len, hw.1, hw.2, List.drop_zero, Nat.sub_zero, r1.len, List.take_length]
        rw [e] at h3
        exact h3 _ _ _ sm4 s4
      · obtain ⟨its, hs, s5⟩ := s4.drop.ex
        obtain ⟨s6, sm6⟩ := s5.mkTup (rpAll_cut r1 l u) hq
        exact h3 _ _ _ (sm4.trans sm6) ⟨its, hs, s6⟩
    | str z =>
      rw [hd] at s4
      simp only [hd] at h3
      by_cases hz : z.length ≤ sizeLine
      · rw [if_pos hz] at h3
        have e := rp_str s4.rp
        subst e
        exact .inr (.inr ⟨z, rfl, hz, h3 _ _ _ sm4 (s4.drop.add (.str _))⟩)
      · rw [if_neg hz] at h3; exact h3.elim
    | _ => simp only [hd, ofO] at h3; exact h3.elim
/-- x[::-1] -/
def dRev : PyData → Option OV
  | .list ds => some (.lst (ds.reverse.map .sh))
  | _ => none
theorem ev_rev {k : Nat} {p1 p2 p3 : Pos} (ha : EvE X W a fa) : EvE X W (.Subscript a (.Slice none none (some (.UnaryOp .USub (.Constant (.int 1) k p1) p2)) p3) pos) (eUn (fun o => dRev (fz o)) fa) :=
  pe_w (pe_revL ha) fun σ H Q ⟨Hf, T, ρ, F, s, h⟩ => ⟨Hf, T, ρ, F, s, PostE.bind h fun o ρ1 v H1 Hf1 sm s1 h1 => by
    obtain ⟨Hf2, sm2, s2⟩ := s1.freeze
    cases hd : fz o with
    | list ds =>
      rw [hd] at s2
      simp only [hd, dRev, ofO] at h1
      obtain ⟨ad, xs, rfl, t1, r1⟩ := s2.rp.sqL
      refine ⟨ad, xs, rfl, s2.sub.sqL t1, fun q hq => ?_⟩
      obtain ⟨its, hs, s5⟩ := s2.drop.ex
      exact h1 _ _ _ sm2 ⟨its, hs, s5.mkLst r1.reverse hq⟩
    | _ => simp only [hd, dRev, ofO] at h1; exact h1.elim⟩

/-! ### displays of dicts -/
theorem ev_dnewK : EvE X W (.Dict [] [] pos) fun ρ => .ok (.dk []) ρ := pe_w pe_dnewK fun σ H Q ⟨Hf, T, ρ, F, s, h⟩ q hq => by
  obtain ⟨its, hs, s2⟩ := s.ex
  exact h _ _ _ (Same.refl _) ⟨its, hs, SX.newOwn (C := []) s2 hq fun bs hb => by cases hb; exact .dk (ks := []) (vs := []) (os := []) rfl List.nodup_nil .nil⟩
theorem ev_dnewT : EvE X W (.Dict [] [] pos) fun ρ => .ok (.dt []) ρ := pe_w pe_dnewT fun σ H Q ⟨Hf, T, ρ, F, s, h⟩ q hq => by
  obtain ⟨its, hs, s2⟩ := s.ex
  exact h _ _ _ (Same.refl _) ⟨its, hs, SX.newOwn (C := []) s2 hq fun bs hb => by cases hb; exact .dt (ks := []) (vs := []) (os := []) rfl List.nodup_nil .nil⟩
end
end Ev
namespace Ev
open PySem PySem.Spec L2
open PyProof.Rows hiding St

/-! ### stores by place or key -/
def setO (c : OV) (k : PyData) (o : OV) : Option OV := match c with
  | .lst os => match k with
    | .int j => (ixN os.length j).map fun j => .lst (os.set j o)
    | _ => none
  | .dk kvs => match asDK k with
    | some (.inl q) => if kvs.length < sizeLine then some (.dk (putG kvs q o)) else none
    | _ => none
  | .dt kvs => match asDK k with
    | some (.inr q) => if kvs.length < sizeLine ∧ fineK (.inr q) = true then some (.dt (putG kvs q o)) else none
    | _ => none
  | .sh _ => none
def rSetA : TSet := fun o i v H Q => rSetL o i v H Q ∨ ∃ a H', o = .ref a ∧ DPut H a i v H' ∧ Q H'
theorem set_any {X : Cx} (hu : X.A.units + 1 < cLine) : PSet X rSetA := fun pins s σ H o i v ov iv u Q I ro ri rv h => by
  rcases h with h | ⟨a, H', e, g, q⟩
  · exact set_list pins s σ H o i v ov iv u Q I ro ri rv h
  · subst e
    cases ro
    exact d_setItem hu I g ri rv fun s' I' => ⟨H', I', q⟩
theorem ixN_lt {n : Nat} {i : Int} {j : Nat} (h : ixN n i = some j) : j < n := (ixN_seq h).2.1
/-- the store on what is owned; y: the key -/
theorem SX.setO {K : PySem.W.Frag} {Hf H : Hp} {its : Its} {F : Bs} {v w y : V} {c c' o : OV} {k : PyData} {Q : Hp → Prop} (s : SX K Hf ((v, c) :: (w, o) :: its) F H) (r : Rp K H y k) (h : Ev.setO c k o = some c')
    (q : ∀ H', SX K Hf ((v, c') :: its) F H' → Q H') : rSetA v y w H Q := by
  unfold Ev.setO at h
  cases c with
  | sh d => cases h
  | lst os =>
    obtain ⟨a, rfl⟩ := s.lstRef
    cases k with
    | int j =>
      obtain ⟨n, hn, rfl⟩ := Option.map_eq_some_iff.mp h
      have e := rp_int r
      subst e
      obtain ⟨vs, hl, h1, s2⟩ := SX.setAt (its := its) (ixN_lt hn) s
      exact .inl ⟨a, vs, j, n, rfl, rfl, h1, by rw [hl]; exact hn, q _ s2⟩
    | _ => cases h
  | dk kvs =>
    simp only at h
    split at h
    · rename_i key hk
      split at h
      · rename_i hz
        cases h
        obtain ⟨a, _, rfl, _⟩ := s.kref
        have ek := asDK_inl hk
        subst ek
        have ey := rp_key r
        subst ey
        obtain ⟨kv, hl, h1, s2⟩ := SX.putDK (its := its) key s
        exact .inr ⟨a, _, rfl, .inl ⟨kv, key, h1, rfl, by rw [hl]; exact hz, rfl⟩, q _ s2⟩
      · cases h
    · cases h
  | dt kvs =>
    simp only at h
    split at h
    · rename_i key hk
      split at h
      · rename_i hz
        cases h
        obtain ⟨a, _, rfl, _⟩ := s.tref
        have ek := asDK_inr hk
        subst ek
        obtain ⟨b, rfl, hb⟩ := rp_keyT r hz.2
        obtain ⟨kv, hl, h1, s2⟩ := SX.putDT (its := its) key s
        exact .inr ⟨a, _, rfl, .inr ⟨kv, key, b, h1, rfl, hb, by rw [hl]; exact hz.1, rfl⟩, q _ s2⟩
      · cases h
    · cases h
theorem set_same {σ : St} {i : Nat} {v : V} (h : σ[i]? = some (some v)) : σ.set i (some v) = σ := by
  apply List.ext_getElem?
  intro j
  by_cases e : i = j
  · subst e
    by_cases hl : i < σ.length
    · rw [List.getElem?_set_self hl, h]
    · rw [List.set_eq_of_length_le (by omega)]
  · rw [List.getElem?_set_ne e]
def ofSt (i : Nat) (k o : OV) (ρ : Rho) : Out := match ρ[i]? with
  | some (some c) => match setO c (fz k) o with
    | some c' => .next (ρ.set i (some c'))
    | none => .stk
  | _ => .stk
def sSetIx (i : Nat) (f fk : Rho → Re) (ρ : Rho) : Out := bindS (f ρ) fun o ρ1 => if (match ρ1[i]? with | some (some _) => true | _ => false) = true then bindS (fk ρ1) fun k ρ2 => ofSt i k o ρ2 else .stk
section
variable {X : Cx} {W : WX} {e a b c : Expr} {es : List Expr} {f fa fb fk : Rho → Re} {fl : Rho → ReL} {p p2 pos apos cpos : Pos} {n m : Nat} {x : Str}
/-- x[k] = e -/
theorem es_setIx {i : Nat} (G : Good X W m) (hx : PE X a (tVar i)) (hk : EvE X W b fk) (he : EvE X W e f)
    (ha : ∀ v, assign (.Subscript a b p) X.env v = (do
      let ov ← holding [v] (eval a X.env)
      let iv ← holding [v, ov] (eval b X.env)
      standAt p
      holding [v, ov, iv] (setItem ov iv v)
      release [v, ov, iv] []) := by intro _; rfl)
    (hs : swapsWithSole [.Subscript a b p] e pos.line X.env = pure false := by rfl) (hw : swappedStores [.Subscript a b p] e X.env = pure none := by rfl)
    (h1 : (assignEach [.Subscript a b p] X.env).map (·.2) = [assign (.Subscript a b p) X.env] := by rfl) : EvS X W (.Assign [.Subscript a b p] e pos) (sSetIx i f fk) :=
  ps_w (ps_asg he (pg_sub hx hk (set_any (by have := G.hu; omega)) ha) hs hw h1) fun D σ H ⟨Hf, ρ, F, s, hh⟩ => by
    refine ⟨Hf, [], ρ, F, s, PostE.bindS hh fun o ρ1 w H1 Hf1 sm1 s1 h1 => ?_⟩
    cases q0 : ρ1[i]? with
    | none => simp [q0] at h1; exact h1.elim
    | some y0 =>
      cases y0 with
      | none => simp [q0] at h1; exact h1.elim
      | some c0 =>
        simp only [q0] at h1
        rw [if_pos trivial] at h1
        obtain ⟨v, hv, _, _⟩ := s1.take q0
        refine ⟨v, hv, Hf1, [(w, o)], ρ1, F, s1, PostE.bindS h1 fun k ρ2 y H2 Hf2 sm2 s2 h2 => ?_⟩
        unfold ofSt at h2
        cases q : ρ2[i]? with
        | none => simp only [q] at h2; exact h2.elim
        | some y1 =>
          cases y1 with
          | none => simp only [q] at h2; exact h2.elim
          | some cc =>
            simp only [q] at h2
            cases q3 : setO cc (fz k) o with
            | none => simp only [q3] at h2; exact h2.elim
            | some c' =>
              simp only [q3] at h2
              obtain ⟨v', hv', s3, _⟩ := s2.take q
              rw [hv] at hv'
              obtain rfl : v = v' := by injection hv' with z; injection z
              have r : Rp X.K H2 y (fz k) := s2.rdH
              obtain ⟨its, hs, s4⟩ := s3.ex
              have s5 : SX X.K Hf2 ((v, cc) :: (w, o) :: its) F H2 := SX.drop (s4.perm (List.Perm.swap _ _ _))
              refine SX.setO (its := its) s5 r q3 fun H' s6 => ?_
              refine h2 σ H' Hf2 (Same.refl _) ?_
              have := SI.put' (T := []) i ⟨its, hs, s6⟩
              rw [set_same hv] at this
              simpa using this

/-! ### what lies within what is owned -/
def subO (c : OV) (k : PyData) : Option OV := match c with
  | .lst os => match k with
    | .int j => (ixN os.length j).bind fun j => os[j]?
    | _ => none
  | .dk kvs => match asDK k with
    | some (.inl q) => (kvs.find? fun p => decide (p.1 = q)).map (·.2)
    | _ => none
  | .dt kvs => match asDK k with
    | some (.inr q) => if fineK (.inr q) = true then (kvs.find? fun p => decide (p.1 = q)).map (·.2) else none
    | _ => none
  | .sh _ => none
def putO (c : OV) (k : PyData) (o : OV) : OV := match c with
  | .lst os => match k with
    | .int j => match ixN os.length j with
      | some j => .lst (os.set j o)
      | none => c
    | _ => c
  | .dk kvs => match asDK k with
    | some (.inl q) => .dk (putG kvs q o)
    | _ => c
  | .dt kvs => match asDK k with
    | some (.inr q) => .dt (putG kvs q o)
    | _ => c
  | .sh _ => c
end
theorem find_at {κ : Type} [DecidableEq κ] (k : κ) : ∀ {ks : List κ} {os : List OV} {o : OV}, ks.Nodup → ((ks.zip os).find? fun p => decide (p.1 = k)).map (·.2) = some o → ∃ j, ks[j]? = some k ∧ os[j]? = some o ∧ ∀ {β : Type} (ys : List β) (y : β), ys.length = os.length → putG (ks.zip ys) k y = ks.zip (ys.set j y) ∧ (ks.length = os.length → ((ks.zip ys).find? fun p => decide (p.1 = k)).map (·.2) = ys[j]?)
  | [], _, _, _, h => by simp at h
  | _ :: _, [], _, _, h => by simp at h
  | k' :: ks, o' :: os, o, n, h => by
    have n' := List.nodup_cons.mp n
    by_cases e : k' = k
    · subst e
      simp at h
      subst h
      refine ⟨0, rfl, rfl, fun ys y hl => ?_⟩
      cases ys with
      | nil => simp at hl
      | cons z ys => simp [putG]
    · rw [List.zip_cons_cons, List.find?_cons] at h
      simp only [decide_eq_false e] at h
      obtain ⟨j, h1, h2, h3⟩ := find_at k (ks := ks) (os := os) n'.2 h
      refine ⟨j + 1, by simpa using h1, by simpa using h2, fun ys y hl => ?_⟩
      cases ys with
      | nil => simp at hl
      | cons z ys =>
        obtain ⟨a1, a2⟩ := h3 ys y (by simpa using hl)
        refine ⟨by simp [putG, e, a1], fun hk => ?_⟩
        rw [List.zip_cons_cons, List.find?_cons]
        simp only [decide_eq_false e]
        rw [a2 (by simpa using hk)]
        simp
section
variable {K : PySem.W.Frag} {Hf H : Hp} {its : Its} {F : Bs} {v y : V} {c o : OV} {k : PyData}
theorem OwnL.split2 : ∀ {vs : List V} {os : List OV} {bs : Bs} {i : Nat} {o : OV}, OwnL K Hf vs os bs → os[i]? = some o →
    ∃ v b0 b1 b2, vs[i]? = some v ∧ bs = b0 ++ b1 ++ b2 ∧ Own K Hf v o b1 ∧ (∀ Hf' o' b', Ext Hf Hf' → Own K Hf' v o' b' → OwnL K Hf' vs (os.set i o') (b0 ++ b' ++ b2))
  | _, _, _, _, _, .nil, e => by simp at e
  | _, _, _, 0, _, .cons (b1 := b1) (b2 := b2) h r, e => by
    simp at e; subst e
    exact ⟨_, [], b1, b2, rfl, by simp, h, fun Hf' o' b' ex q => by simpa using OwnL.cons q (r.mono ex)⟩
  | _, _, _, i + 1, o, .cons (b1 := c1) (b2 := c2) h r, e => by
    obtain ⟨v, b0, b1, b2, e1, e2, q, f⟩ := OwnL.split2 (i := i) (o := o) r (by simpa using e)
    refine ⟨v, c1 ++ b0, b1, b2, by simpa using e1, by rw [e2]; simp, q, fun Hf' o' b' ex q' => ?_⟩
    have := OwnL.cons (h.mono ex) (f Hf' o' b' ex q')
    simpa using this
/-- a part of what is owned comes to the front; the rest is framed -/
theorem SX.focusAt {a : Addr} {u : HO} {vs : List V} {os : List OV} {j : Nat} {G : OV → OV} {F0 : Bs}
    (s : ∃ b0 b2, OwnL K Hf vs os b0 ∧ OwnI K Hf its b2 ∧ ((((a, u) :: b0) ++ b2 ++ F0).map (·.1)).Nodup ∧ (∀ p ∈ ((a, u) :: b0) ++ b2 ++ F0, H p.1 = some p.2 ∧ Hf p.1 = none)) (e : Ext Hf H) (hj : os[j]? = some o)
    (mk : ∀ Hf' o' b', OwnL K Hf' vs (os.set j o') b' → Own K Hf' (.ref a) (G o') ((a, u) :: b')) :
    ∃ w F1, vs[j]? = some w ∧ SX K Hf ((w, o) :: its) (F1 ++ F0) H ∧ ∀ Hf' H' its' o', Same Hf Hf' → SX K Hf' ((w, o') :: its') (F1 ++ F0) H' → SX K Hf' ((.ref a, G o') :: its') F0 H' := by
  obtain ⟨b0, b2, hos, hits, n, al⟩ := s
  obtain ⟨w, c0, c1, c2, hw, rfl, ho, f⟩ := hos.split2 hj
  have z0 : ∀ d1 d2 : Bs, ((a, u) :: (c0 ++ d1 ++ c2) ++ d2 ++ F0).Perm (d1 ++ d2 ++ ((a, u) :: (c0 ++ c2) ++ F0)) := fun d1 d2 => by
    have z1 : ((a, u) :: (c0 ++ d1 ++ c2)).Perm (d1 ++ ((a, u) :: (c0 ++ c2))) := by
      refine List.Perm.trans ?_ List.perm_middle.symm
      refine List.Perm.cons _ ?_
      rw [List.append_assoc]
      exact List.perm_append_comm_assoc _ _ _
    have q1 : ((a, u) :: (c0 ++ d1 ++ c2) ++ d2).Perm (d1 ++ d2 ++ ((a, u) :: (c0 ++ c2))) := by
      refine (z1.append_right d2).trans ?_
      rw [List.append_assoc, List.append_assoc]
      exact List.Perm.append_left _ List.perm_append_comm
    have := q1.append_right F0
    simpa [List.append_assoc] using this
  refine ⟨w, (a, u) :: (c0 ++ c2), hw, ⟨⟨c1 ++ b2, .cons ho hits, nodup_perm (z0 c1 b2) n, fun p hp => al p ((z0 c1 b2).mem_iff.mpr hp)⟩, e⟩, fun Hf' H' its' o' sm s' => ?_⟩
  obtain ⟨⟨bs', hI', n', al'⟩, e'⟩ := s'
  cases hI' with
  | @cons _ _ _ d1 d2 ho' hits' =>
    exact ⟨⟨((a, u) :: (c0 ++ d1 ++ c2)) ++ d2, .cons (mk Hf' o' _ (f Hf' o' d1 (.of sm) ho')) hits', nodup_perm (z0 d1 d2).symm n', fun p hp => al' p ((z0 d1 d2).mem_iff.mp hp)⟩, e'⟩
theorem SX.focus (s : SX K Hf ((v, c) :: its) F H) (r : Rp K H y k) (h : subO c k = some o) :
    ∃ w F1, (∀ Q : VK, Q w H → rSub K v y H Q) ∧ SX K Hf ((w, o) :: its) (F1 ++ F) H ∧ ∀ Hf' H' its' o', Same Hf Hf' → SX K Hf' ((w, o') :: its') (F1 ++ F) H' → SX K Hf' ((v, putO c k o') :: its') F H' := by
  obtain ⟨⟨bs, hI, n, al⟩, e⟩ := s
  cases hI with
  | @cons _ _ _ b1 b2 hv hits =>
  unfold subO at h
  cases c with
  | sh d => cases h
  | lst os =>
    cases hv with
    | @lst a vs _ b0 hos =>
    cases k with
    | int i =>
      simp only at h
      obtain ⟨j, hj, ho⟩ := Option.bind_eq_some_iff.mp h
      obtain ⟨w, F1, hw, s1, back⟩ := SX.focusAt (G := fun o' => .lst (os.set j o')) ⟨b0, b2, hos, hits, n, al⟩ e ho (fun Hf' o' b' q => .lst q)
      have ey := rp_int r
      subst ey
      refine ⟨w, F1, fun Q q => ?_, s1, fun Hf' H' its' o' sm s' => ?_⟩
      · refine .inl (.inl ⟨a, vs, i, w, rfl, rfl, SqL.of (al _ (List.mem_append_left _ (List.mem_append_left _ List.mem_cons_self))).1, ?_, q⟩)
        unfold atI
        rw [hos.len, hj]
        exact hw
      · have := back Hf' H' its' o' sm s'
        show SX K Hf' ((V.ref a, putO (.lst os) (.int i) o') :: its') F H'
        unfold putO
        simp only [hj]
        exact this
    | _ => cases h
  | dk kvs =>
    cases hv with
    | @dk a ks vs os b0 l nd hos =>
    simp only at h
    split at h
    · rename_i key hk
      obtain ⟨j, hj1, hj2, hf⟩ := find_at key nd h
      have ek := asDK_inl hk
      subst ek
      have ey := rp_key r
      subst ey
      obtain ⟨w, F1, hw, s1, back⟩ := SX.focusAt (G := fun o' => .dk (ks.zip (os.set j o'))) ⟨b0, b2, hos, hits, n, al⟩ e hj2 (fun Hf' o' b' q => .dk l nd q)
      refine ⟨w, F1, fun Q q => ?_, s1, fun Hf' H' its' o' sm s' => ?_⟩
      · refine .inr ⟨a, w, rfl, .inl ⟨_, key, .inl (al _ (List.mem_append_left _ (List.mem_append_left _ List.mem_cons_self))).1, rfl, ?_⟩, q⟩
        have := (hf vs w (by rw [hos.len])).2 (by rw [l, hos.len])
        unfold valV
        rw [this, hw]
      · have := back Hf' H' its' o' sm s'
        show SX K Hf' ((V.ref a, putO (.dk (ks.zip os)) (kD key) o') :: its') F H'
        unfold putO
        simp only [asDK_kD]
        rw [(hf os o' rfl).1]
        exact this
    · cases h
  | dt kvs =>
    cases hv with
    | @dt a ks vs os b0 l nd hos =>
    simp only at h
    split at h
    · rename_i key hk
      split at h
      · rename_i hfine
        obtain ⟨j, hj1, hj2, hf⟩ := find_at key nd h
        have ek := asDK_inr hk
        subst ek
        obtain ⟨b, rfl, hb⟩ := rp_keyT r hfine
        obtain ⟨w, F1, hw, s1, back⟩ := SX.focusAt (G := fun o' => .dt (ks.zip (os.set j o'))) ⟨b0, b2, hos, hits, n, al⟩ e hj2 (fun Hf' o' b' q => .dt l nd q)
        refine ⟨w, F1, fun Q q => ?_, s1, fun Hf' H' its' o' sm s' => ?_⟩
        · refine .inr ⟨a, w, rfl, .inr ⟨_, key, b, .inl (al _ (List.mem_append_left _ (List.mem_append_left _ List.mem_cons_self))).1, rfl, hb, ?_⟩, q⟩
          have := (hf vs w (by rw [hos.len])).2 (by rw [l, hos.len])
          unfold valV
          rw [this, hw]
        · have := back Hf' H' its' o' sm s'
          show SX K Hf' ((V.ref a, putO (.dt (ks.zip os)) (ktD key) o') :: its') F H'
          unfold putO
          simp only [asDK_ktD]
          rw [(hf os o' rfl).1]
          exact this
      · cases h
    · cases h
end

/-! ### x[k].m(e, ..) -/
def isNo (ρ : Rho) (i : Nat) : Bool := match ρ[i]? with
  | some none => true
  | _ => false
def isOv (ρ : Rho) (i : Nat) : Bool := match ρ[i]? with
  | some (some _) => true
  | _ => false
theorem isNo_iff {ρ : Rho} {i : Nat} (h : isNo ρ i = true) : ρ[i]? = some none := by
  unfold isNo at h
  split at h
  · assumption
  · cases h
theorem isOv_iff {ρ : Rho} {i : Nat} (h : isOv ρ i = true) : ∃ o, ρ[i]? = some (some o) := by
  unfold isOv at h
  split at h
  · exact ⟨_, by assumption⟩
  · cases h
def ofN (i : Nat) (c : OV) (k : PyData) (g : OV → List OV → Option (OV × OV)) (o : OV) : ReL → Re
  | .ok os ρ => match g o os with
    | some (o', res) => if isNo ρ i = true then .ok res (ρ.set i (some (putO c k o'))) else .stk
    | none => .stk
  | _ => .stk
def eMutS (i : Nat) (T : String) (g : OV → List OV → Option (OV × OV)) (fk : Rho → Re) (fl : Rho → ReL) (ρ : Rho) : Re := if isOv ρ i = true then
    bindE (fk ρ) fun k ρ1 => match ρ1[i]? with
    | some (some c) => match subO c (fz k) with
      | some o => if ownT o = T then ofN i c (fz k) g o (fl (ρ1.set i none)) else .stk
      | none => .stk
    | _ => .stk
  else .stk
section
variable {X : Cx} {W : WX} {e a b c : Expr} {es : List Expr} {f fa fb fk : Rho → Re} {fl : Rho → ReL} {p p2 pos apos cpos : Pos} {n m : Nat} {x : Str} {name : Str} {T id : String} {r : V → List V → Hp → VK → Prop} {g : OV → List OV → Option (OV × OV)}
theorem ev_mutS {i : Nat} (ho : OpM X.K r g) (hT : T ≠ "") (hp : PE X (.Call (.Attribute (.Subscript a b p) name apos) (e :: es) [] cpos) (tBM X.K T r (tOp (rSub X.K) (tVar i) (tE X W fk)) (tL X W fl))) :
    EvE X W (.Call (.Attribute (.Subscript a b p) name apos) (e :: es) [] cpos) (eMutS i T g fk fl) := pe_w hp fun σ H Q ⟨Hf, T', ρ, F, s, h⟩ => by
  unfold eMutS at h
  by_cases hov : isOv ρ i = true
  case neg => rw [if_neg hov] at h; exact h.elim
  rw [if_pos hov] at h
  obtain ⟨o0, q0⟩ := isOv_iff hov
  obtain ⟨v, hv, _, _⟩ := s.take q0
  refine ⟨v, hv, Hf, T', ρ, F, s, PostE.bind h fun k ρ1 y H1 Hf1 sm1 s1 h1 => ?_⟩
  split at h1
  · rename_i c q1
    split at h1
    · rename_i o q2
      split at h1
      · rename_i ht
        obtain ⟨v', hv', s2, _⟩ := s1.take q1
        rw [hv] at hv'
        obtain rfl : v = v' := by injection hv' with z; injection z
        have r : Rp X.K H1 y (fz k) := s1.rdH
        obtain ⟨its, hs, s3⟩ := s2.ex
        have s4 : SX X.K Hf1 ((v, c) :: (T' ++ its)) F H1 := SX.drop (s3.perm (List.Perm.swap _ _ _))
        obtain ⟨w, F1, rd, s5, back⟩ := SX.focus s4 r q2
        refine rd _ ⟨?_, Hf1, (w, o) :: T', ρ1.set i none, F1 ++ F, ⟨its, hs, s5⟩, ?_⟩
        · have := tyV_own (its := T' ++ its) s5 (by rw [ht]; exact hT)
          rw [ht] at this
          exact this
        · cases q3 : fl (ρ1.set i none) with
          | exc e ρ2 => rw [q3] at h1; exact h1.elim
          | stk => rw [q3] at h1; exact h1.elim
          | ok os ρ2 =>
            rw [q3] at h1
            intro vs H2 Hf2 l sm2 s6
            unfold ofN at h1
            simp only at h1
            cases q4 : g o os with
            | none => simp only [q4] at h1; exact h1.elim
            | some p =>
              obtain ⟨o', res⟩ := p
              simp only [q4] at h1
              split at h1
              · rename_i hno
                have hno := isNo_iff hno
                have hlt : i < ρ2.length := (List.getElem?_eq_some_iff.mp hno).1
                obtain ⟨its2, hs2, s7⟩ := s6.ex
                have e1 : (vs.zip os ++ (w, o) :: T') ++ its2 = vs.zip os ++ (w, o) :: (T' ++ its2) := by simp
                rw [e1] at s7
                have s8 : SX X.K Hf2 ((w, o) :: (vs.zip os ++ (T' ++ its2))) (F1 ++ F) H2 := s7.perm List.perm_middle
                refine ho Hf2 (T' ++ its2) (F1 ++ F) H2 w o vs os o' res Q l s8 q4 fun x H3 Hf3 sm3 s9 => h1 x H3 Hf3 (sm2.trans sm3) ?_
                have s10 : SX X.K Hf3 ((w, o') :: ((x, res) :: T' ++ its2)) (F1 ++ F) H3 := s9.perm (List.Perm.swap _ _ _)
                have s11 := back Hf3 H3 _ o' (sm2.trans sm3) s10
                have := SI.put (T := (x, res) :: T') (o := putO c (fz k) o') (v := v) (i := i) (ρ := ρ2) ⟨its2, hs2, s11⟩ hlt
                rw [set_same hv] at this
                exact this
              · exact h1.elim
      · exact h1.elim
    · exact h1.elim
  · exact h1.elim
end
end Ev
namespace Ev
open PySem PySem.Spec L2
open PyProof.Rows hiding St

/-! ### min(xs, key=len) -/
def minAt (ls : List Nat) : Nat := argBest (fun i j => decide ((ls.getD i 0 : Int) < (ls.getD j 0 : Nat))) (ls.length - 1)
def rMinLen (K : PySem.W.Frag) : List V → Hp → VK → Prop := fun vs H Q => ∃ (a : Addr) (xs : List V) (ls : List Nat), vs = [.ref a] ∧ SqL K H a xs ∧ 0 < xs.length ∧ ls.length = xs.length ∧
  (∀ (i : Nat) v, xs[i]? = some v → ∃ p ys, v = .ref p ∧ SqL K H p ys ∧ ls.getD i 0 = ys.length) ∧ ∀ v, xs[minAt ls]? = some v → Q v H
section
variable {X : Cx} {W : WX} {e a b c : Expr} {es : List Expr} {t : TA} {p p2 pos kp : Pos} {n m : Nat}
theorem paired_at {α β : Type} {R : α → β → Prop} : ∀ {xs : List α} {ys : List β} {i : Nat} {y : β}, Paired R xs ys → ys[i]? = some y → ∃ x, xs[i]? = some x ∧ R x y
  | _, _, _, _, .nil, h => by simp at h
  | _, _, 0, _, .cons h _, e => by simp at e; subst e; exact ⟨_, rfl, h⟩
  | _, _, i + 1, _, .cons _ r, e => by
    obtain ⟨x, h1, h2⟩ := paired_at (i := i) r (by simpa using e)
    exact ⟨x, by simpa using h1, h2⟩
theorem call_minLen (hc : X.calm = true) {pins : List (Addr × Obj)} {s : Shared} {σ : St} {H : Hp} {vs : List V} {us : List Value} {Q : VK} (I : Inv X pins σ H s) (r : Vals vs us) (h : rMinLen X.K vs H Q) :
    wpAny (model X.prog X.w) X.A (call (.builtin "min") us [(Str.ofString "key", .builtin "len")]) (EP X pins σ Q) X.xe s := by
  obtain ⟨a, xs, ls, rfl, hs, hne, hll, hk, q⟩ := h
  rw [Vals.ref1 r]
  obtain ⟨its, rv, hl, hz⟩ := I.list hs
  have hlen : its.length = xs.length := rv.length.symm
  have hh : X.A.handled = none := I.ok.hd hc
  refine PySem.call_min_walkKB (PySem.W.iter_listW (A := X.A.in1) hh hl.isList fun s₂ es W st hfp hw hk2 => ?_)
  refine ⟨_, _, _, _, _, _, _, (fun s' => ∃ h' tk, s' = { s with heap := h', toks := tk } ∧ ∀ b o, s.heap.get? b = some o → h'.get? b = some o), (fun i k _ => ∃ t, k = .int (ls.getD i 0 : Nat) t), (fun i j => decide ((ls.getD i 0 : Int) < (ls.getD j 0 : Nat))), rfl, W, st, hfp, by simp only [List.size_toArray]; omega, ?_, ?_, ?_⟩
  · subst es
    refine ⟨fun s1 s' hJ m => ?_, fun i k s1 s' hV _ => hV, fun i v s1 o Q E hi hP hJ hst hS q => ?_, fun i j ki kj s1 Q E hJ hi hj q => ?_⟩
    · obtain ⟨h1, tk, rfl, hk1⟩ := hJ
      refine ⟨s'.heap, s'.toks, ?_, fun b ob eb => m.heap b ob (fun hb => ?_) (hk1 b ob eb)⟩
      · obtain ⟨hp, g, d, tk', os⟩ := s'
        have h1 : g = s.gens := m.gens
        have h2 : d = s.drawn := m.drawn
        have h3 : os = s.os := m.os
        subst h1
        subst h2
        subst h3
        rfl
      · have hlt := Heap.lt_size eb
        rcases List.mem_cons.mp hb with e | hb
        · have : b = (s.heap.objs.size + 1) := by rw [e]; exact Heap.size_push _ _
          rw [this] at hlt
          exact Nat.lt_irrefl _ (Nat.lt_of_succ_lt hlt)
        · have := List.mem_singleton.mp hb
          exact Nat.lt_irrefl _ (this ▸ hlt)
    · obtain ⟨h1, tk, rfl, hk1⟩ := hJ
      have hP' : its[i]? = some v := by simpa using hP
      obtain ⟨x, hx, rx⟩ := paired_at rv hP'
      obtain ⟨pp, ys, rfl, hq, hly⟩ := hk i x hx
      cases rx
      obtain ⟨jts, r', pl, hz'⟩ := I.list hq
      have hlen2 := r'.length
      have pl1 : h1.IsList pp jts.toArray := by
        obtain ⟨o1, e1, e2⟩ := pl.isList
        exact ⟨o1, hk1 _ _ e1, e2⟩
      have hn := line63
      refine Calls.call_len_list pl1 (by simp only [List.size_toArray] <;> omega) (q _ _ ⟨h1, _, rfl, hk1⟩ ?_ hS ⟨_, by rw [hly, List.size_toArray, hlen2]⟩ fun j k' hv => hv)
      exact hst
    · obtain ⟨t1, rfl⟩ := hi
      obtain ⟨t2, rfl⟩ := hj
      exact CmpOf.ints_lt (P := fun i v => ∃ t, v = .int (ls.getD i 0 : Nat) t) (fun i => ((ls.getD i 0 : Nat) : Int)) (fun i v h => h) i j _ _ _ _ _ ⟨t1, rfl⟩ ⟨t2, rfl⟩ q
  · exact ⟨s₂.heap, s₂.toks, by subst es; rfl, hk2⟩
  · intro v s' hP hJ
    obtain ⟨h', tk, rfl, hk'⟩ := hJ
    have e1 : its.toArray.size - 1 = ls.length - 1 := by simp only [List.size_toArray]; omega
    rw [e1] at hP
    have hP' : its[minAt ls]? = some v := by simpa [minAt] using hP
    obtain ⟨x, hx, rx⟩ := paired_at rv hP'
    exact ⟨x, H, I.kept hk', rx, q x hx⟩
theorem pe_minLen (hc : X.calm = true) (hg1 : Gl X "min") (hm1 : X.mg "min" = none) (hg2 : Gl X "len") (hm2 : X.mg "len" = none) (ha : PA X [e] t)
    (he : backTo pos (starEach [e] X.env) = (false, eval e X.env) :: backTo pos (starEach [] X.env) := by rfl) (hpl : (backTo pos (starEach [e] X.env)).any (·.1) = false := by rfl) :
    PE X (.Call (.Name "min" p) [e] [⟨some "key", .Name "len" p2, kp⟩] pos) (fun σ H Q => t σ H fun vs H1 => rMinLen X.K vs H1 Q) := by
  refine ⟨fun pins s σ H Q I h => ?_⟩
  refine wpAny_Call_Name_kw (ld_blt I hg1 hm1 (by decide +kernel : bootBuiltins "min" = some (.builtin "min")) ?_ (by decide) (by decide))
  refine PyProof.Rows.callWith_kw (thn (ha.run pos pins s σ H _ I h) fun us s1 ⟨vs, H1, I1, r1, q1⟩ => ?_) he hpl (by rfl) (by rfl)
  show wpAny _ _ (evalAll ((do let v ← eval (.Name "len" p2) X.env; standAt pos; pure v) :: (backToKw pos (keywordEach [] X.env)).map (·.2))) _ _ s1
  refine wpAny_evalAll_cons (wpAny_bind (ld_blt I1 hg2 hm2 (by decide +kernel : bootBuiltins "len" = some (.builtin "len")) (wpAny_bind (wpAny_standAt (wpAny_pure ?_))) (by decide) (by decide)))
  exact wpAny_evalAll_nil (call_minLen hc I1 r1 q1)
def lensOf : List PyData → Option (List Nat)
  | [] => some []
  | .list xs :: ds => (lensOf ds).map (xs.length :: ·)
  | _ => none
def dMinLen : PyData → Option OV
  | .list ds => match lensOf ds with
    | some ls => if 0 < ds.length then (ds[minAt ls]?).map .sh else none
    | none => none
  | _ => none
theorem lensOf_len : ∀ {ds : List PyData} {ls : List Nat}, lensOf ds = some ls → ls.length = ds.length
  | [], ls, h => by cases h; rfl
  | .list xs :: ds, ls, h => by
    obtain ⟨l, h1, rfl⟩ := Option.map_eq_some_iff.mp h
    simp [lensOf_len h1]
theorem lensOf_at : ∀ {ds : List PyData} {ls : List Nat} {i : Nat} {d : PyData}, lensOf ds = some ls → ds[i]? = some d → ∃ xs, d = .list xs ∧ ls.getD i 0 = xs.length
  | [], ls, i, d, h, e => by simp at e
  | .list xs :: ds, ls, 0, d, h, e => by
    obtain ⟨l, h1, rfl⟩ := Option.map_eq_some_iff.mp h
    simp at e; subst e
    exact ⟨xs, rfl, rfl⟩
  | .list xs :: ds, ls, i + 1, d, h, e => by
    obtain ⟨l, h1, rfl⟩ := Option.map_eq_some_iff.mp h
    obtain ⟨ys, h2, h3⟩ := lensOf_at (i := i) h1 (by simpa using e)
    exact ⟨ys, h2, by simpa using h3⟩
theorem opn_minLen {K : PySem.W.Frag} : OpN K (rMinLen K) (g1 dMinLen) := opN1 fun Hf its F H v d c Q s r h q => by
  unfold dMinLen at h
  split at h
  · rename_i ds
    split at h
    · rename_i ls hls
      split at h
      · rename_i hne
        obtain ⟨d0, h1, rfl⟩ := Option.map_eq_some_iff.mp h
        obtain ⟨p1, ys, rfl, t1, r1⟩ := r.sqL
        refine ⟨p1, ys, ls, rfl, s.sub.sqL t1, by rw [r1.len]; exact hne, by rw [r1.len, lensOf_len hls], fun i w hw => ?_, fun w hw => ?_⟩
        · obtain ⟨d1, e1, e2⟩ := r1.get' hw
          obtain ⟨xs, rfl, e3⟩ := lensOf_at hls e1
          obtain ⟨p2, zs, rfl, t2, r2⟩ := e2.sqL
          exact ⟨p2, zs, rfl, s.sub.sqL t2, by rw [e3, r2.len]⟩
        · obtain ⟨d1, e1, e2⟩ := r1.get' hw
          rw [h1] at e1
          cases e1
          exact q _ _ _ (Same.refl _) (s.add e2)
      · cases h
    · cases h
  · cases h
theorem ev_minLen {fl : Rho → ReL} (G : Good X W n) (hg1 : Gl X "min") (hm1 : X.mg "min" = none) (hg2 : Gl X "len") (hm2 : X.mg "len" = none) (ha : EvL X W [e] fl)
    (he : backTo pos (starEach [e] X.env) = (false, eval e X.env) :: backTo pos (starEach [] X.env) := by rfl) (hpl : (backTo pos (starEach [e] X.env)).any (·.1) = false := by rfl) : EvE X W (.Call (.Name "min" p) [e] [⟨some "key", .Name "len" p2, kp⟩] pos) (eFn (g1 dMinLen) fl) :=
  pe_w (pe_minLen G.calm hg1 hm1 hg2 hm2 ha he hpl) fun σ H Q ⟨Hf, T, ρ, F, s, h⟩ => fn_post opn_minLen s h
end
end Ev
namespace Ev
open PySem PySem.Spec L2
open PyProof.Rows hiding St

section
variable {X : Cx} {W : WX} {e a b c : Expr} {es : List Expr} {f fa fb fk : Rho → Re} {fl : Rho → ReL} {pos apos cpos p : Pos} {n m k : Nat} {x : Str} {name : Str} {T id : String} {r : V → List V → Hp → VK → Prop} {g : OV → List OV → Option (OV × OV)}
/-- x.m(e, ..) -/
theorem ev_mt {i : Nat} (ho : OpM X.K r g) (hT : T ≠ "") (hp : PE X (.Call (.Attribute b name apos) (e :: es) [] cpos) (tBM X.K T r (tVar i) (tL X W fl))) : EvE X W (.Call (.Attribute b name apos) (e :: es) [] cpos) (eMut i T g fl) := pe_w hp fun σ H Q ⟨Hf, T', ρ, F, s, h⟩ => by
  unfold eMut at h
  cases q : ρ[i]? with
  | none => rw [q] at h; exact h.elim
  | some y =>
    cases y with
    | none => rw [q] at h; exact h.elim
    | some o =>
      simp only [q] at h
      by_cases ht : ownT o = T
      · rw [if_pos ht] at h
        obtain ⟨v, hv, s1, _⟩ := s.take q
        obtain ⟨its, hs, s2⟩ := s1.ex
        refine ⟨v, hv, ?_, Hf, T', ρ, F, s, PostL.bind h fun os ρ1 vs H1 Hf1 l sm s3 h1 => mut_post ho hv l s3 h1⟩
        have := tyV_own (its := T' ++ its) s2 (by rw [ht]; exact hT)
        rw [ht] at this
        exact this
      · rw [if_neg ht] at h; exact h.elim
theorem ixAll (G : Good X W n) : IxR X (rSub X.K) := ix_seq.or (ix_dict (by have := G.hu; omega))
theorem Good.nd' {X : Cx} {W : WX} {n : Nat} (G : Good X W n) : X.N.Nodup := G.nd
end
abbrev eSub := eBin (gII (fun _ _ => true) fun i j => .int (i - j))
abbrev eMul := eBin (gII mulOk fun i j => .int (i * j))
abbrev eMod := eBin (gII (fun _ j => decide (0 < j)) fun i j => .int (i % j))
abbrev eFdiv := eBin (gII divOk fun i j => .int (i / j))
abbrev ePow := eBin (gII powOk fun i j => .int (i ^ j.toNat))
abbrev eShl := eBin (gII shlOk fun i j => .int (i * 2 ^ j.toNat))
abbrev eBand := eBin (gII (fun _ _ => true) fun i j => .int (Builtin.bitAnd i j))
abbrev eBor := eBin (gII (fun _ _ => true) fun i j => .int (Builtin.bitOr i j))
abbrev eNeg := eUn (gI fun i => .int (-i))
end Ev
namespace Ev
open PySem PySem.Spec L2
open PyProof.Rows hiding St

section
variable {P : Program} {w : World} {K : PySem.W.Frag} {mg : Str → Option Value} {base : Heap} {x qual : Str} {ag : Arguments} {bd : List Stmt} {sco : Scope} {f : Addr} {fd : FuncData}
/-- a def's function object with its body's derivation: what it promises -/
theorem fnOk_of {N ps : List Str} {k n : Nat} {g : Rho → Out} (F : FunD K x qual ag bd sco [] [] f fd) (S : FnScope N ps sco) (hn : ps.length = n)
    (der : ∀ (cdv : Value) (A : Around) (outer : List Env) (s : Shared) (H : Hp) (E : XK), Good (cxOf (L2.CX P w) P w K mg base N qual sco f cdv A outer s H E) (fun cls d _ H => E cls d H) k →
      EvB (cxOf (L2.CX P w) P w K mg base N qual sco f cdv A outer s H E) (fun cls d _ H => E cls d H) bd g) :
    FnOk P w K mg base (L2.CX P w) (k + 1) f fd ps (spP K mg n (runP N.length g)) := by
  refine F.ok S (fun vs H Q E h => ?_) fun cdv A outer s H vs Q E hr h => ?_
  · obtain ⟨_, _, _, l, _⟩ := h
    exact l.trans hn.symm
  · obtain ⟨Hf, ds, Fr, l, r, sx, h⟩ := h
    have gd := der cdv A outer s H E ⟨S.nd, rfl, takes_of rfl rfl rfl rfl, passes_of rfl, hr⟩
    have sl := slots_start (N.length - ds.length) r.len
    refine ⟨_, gd, Hf, ds.map (fun d => some (.sh d)) ++ List.replicate (N.length - ds.length) none, Fr, ⟨vs.zip (ds.map .sh), ?_, sx.addAll r⟩, ?_⟩
    · unfold L2.start
      rw [r.len]
      exact sl
    · unfold runP at h
      generalize g (ds.map (fun d => some (.sh d)) ++ List.replicate (N.length - ds.length) none) = out at h
      have drop : ∀ {Hf' H' : Hp} {ρ' : Rho} {σ' : St}, SI K Hf' [] ρ' Fr σ' H' → SX K Hf' [] Fr H' := fun s' => by
        obtain ⟨its, hs, s2⟩ := s'.ex
        exact SX.tail (A := its) (B := []) (by rw [List.append_nil]; exact s2)
      cases out with
      | stk => exact h.elim
      | brk ρ' => exact h.elim
      | cnt ρ' => exact h.elim
      | next ρ' => exact fun σ' H' Hf' sm s' => h .non H' Hf' sm ((drop s').add .non)
      | ret o ρ' => exact fun v σ' H' Hf' sm s' => h v H' Hf' sm (by
          obtain ⟨its, hs, s2⟩ := s'.ex
          exact SX.head (A := [(v, o)]) s2)
      | exc e ρ' => exact fun σ' H' Hf' cls d sm s' x => h H' Hf' cls d sm (drop s') x
theorem fnD_of {N ps : List Str} {k n : Nat} {g : Rho → Out} (F : FunD K x qual ag bd sco [] [] f fd) (S : FnScope N ps sco) (hm : mg x = some (.ref f)) (hb : Binds K fd ps []) (hn : ps.length = n)
    (der : ∀ (cdv : Value) (A : Around) (outer : List Env) (s : Shared) (H : Hp) (E : XK), Good (cxOf (L2.CX P w) P w K mg base N qual sco f cdv A outer s H E) (fun cls d _ H => E cls d H) k →
      EvB (cxOf (L2.CX P w) P w K mg base N qual sco f cdv A outer s H E) (fun cls d _ H => E cls d H) bd g) :
    FnT P w K mg base x (k + 1) n (runP N.length g) := ⟨f, fd, ps, hm, F.kp, hb, fnOk_of F S hn der⟩
/-- a script as the law may get it -/
def scOk (ns : List Int) : Prop := ns.length ≤ 63 ∧ ∀ z ∈ ns, Builtin.Int.intBits z ≤ 1048576
def spTrue (K : PySem.W.Frag) : Sp := fun vs H Q _ => ∃ (a : Addr) (ns : List Int), scOk ns ∧ vs = [.ref a] ∧ SqL K H a (ns.map V.int) ∧ (∀ H', Q (.bl true) H')
/-- .. whose mirror is True of every script -/
theorem law_of {k : Nat} {g : List PyData → Rv} (hg : ∀ ns : List Int, scOk ns → g [.list (ns.map .int)] = .ok (.sh (.bool true))) (F : FnOk P w K mg base (L2.CX P w) k f fd [x] (spP K mg 1 g)) :
    FnOk P w K mg base (L2.CX P w) k f fd [x] (spTrue K) := F.imp fun vs H Q E h => by
  obtain ⟨a, ns, hn, rfl, hs, q⟩ := h
  refine ⟨H, [.list (ns.map .int)], [], rfl, .cons (.lst hs (RpAll.ints ns)) .nil, SX.nil (Ext.refl H), ?_⟩
  rw [hg ns hn]
  intro v H' Hf' sm s
  have e := s.rp
  cases e
  exact q H'
end
/-- the end of a law's proof -/
theorem walkE {l : PySem.W.OpenLaw} {k : Nat} {q : Program} {loose : List Str} {XP : (Str → Option Value) → Heap → Prop} {YP : World → Heap → Prop} {d : DefRec}
    (hr : Room k callerA) (hn : l.most = some 63) (hdf : d.params.defaults = [])
    (F : ∀ (w : World) (mg : Str → Option Value) (fa : Addr) (h : Heap), YP w h → mg d.name = some (.ref fa) → h.Ns mainGlobals mg →
      ∃ (K : PySem.W.Frag) (fd : FuncData), K.In h ∧ (∀ (s : Shared) (u : Value), BindsTo s fd ⟨[u], []⟩ [("script", u)]) ∧
        ∀ base : Heap, K.In base → base.Ns mainGlobals mg → FnOk l.prog w K mg base (L2.CX l.prog w) k fa fd ["script"] (spTrue K)) :
    PySem.W.WalkO q loose XP YP l.row.toRowW d [] (fun f vs => PySem.call f vs) := by
  refine Att.attach_callB hn hdf ?_
  intro w _ s1 mg _ fa _ _ _ _ a _ ns G Y _ _ _ hmg hobj hints hlen hbits hg
  obtain ⟨K, fd, hK, hb, hF⟩ := F w mg fa _ Y hmg G.T.g
  have h63 : ns.length ≤ sizeLine := Nat.le_trans hlen (by decide)
  refine law_call hK G.T.g G.T.b G.T.builtins G.T.nolimit hg hobj hints h63 hr hF hb ?_ ?_
  · exact fun H _ hS => ⟨a, ns, ⟨hlen, hbits⟩, rfl, hS, fun _ => rfl⟩
  · intro H e s' z
    obtain ⟨_, _, _, _, _, _, _, _, _, _, _, _, z⟩ := z
    exact z
end Ev
namespace Ev
open PySem PySem.Spec L2
open PyProof.Rows hiding St

/-! ### the plain laws: what the mirrors compute -/
section
variable {ρ ρ1 ρ2 : Rho} {f fa fb fc : Rho → Re} {g g' : OV → OV → Option OV} {o : OV} {i j : Int} {d e : PyData}
theorem gAdd_int : gAdd (.sh (.int i)) (.sh (.int j)) = some (.sh (.int (i + j))) := rfl
theorem gII_int {C : Int → Int → Bool} {h : Int → Int → PyData} : gII C h (.sh (.int i)) (.sh (.int j)) = if C i j = true then some (.sh (h i j)) else none := rfl
theorem gII_ok {C : Int → Int → Bool} {h : Int → Int → PyData} (hc : C i j = true) : gII C h (.sh (.int i)) (.sh (.int j)) = some (.sh (h i j)) := by rw [gII_int, if_pos hc]
theorem gI_int {h : Int → PyData} : gI h (.sh (.int i)) = some (.sh (h i)) := rfl
theorem gOrd_int {fi : Int → Int → Bool} {fd : PyData → PyData → Bool} : gOrd fi fd (.sh (.int i)) (.sh (.int j)) = some (.sh (.bool (fi i j))) := rfl
theorem shaped_int : SeqAt.shaped (.int i) = true := by simp [SeqAt.shaped, PyData.canLay0, PyData.depth]
theorem shaped_str {x : Str} : SeqAt.shaped (.str x) = PyData.strOk x := by simp [SeqAt.shaped, PyData.canLay0, PyData.depth]
theorem shaped_bool {x : Bool} : SeqAt.shaped (.bool x) = true := by simp [SeqAt.shaped, PyData.canLay0, PyData.depth]
theorem shaped_none : SeqAt.shaped .none = true := by simp [SeqAt.shaped, PyData.canLay0, PyData.depth]
theorem eqv_int : PyData.eqv (.int i) (.int j) = decide (i = j) := by rw [PyData.eqv]; rfl
theorem eqv_str {x y : Str} : PyData.eqv (.str x) (.str y) = decide (x = y) := by rw [PyData.eqv]; rfl
theorem gEq_int {neg : Bool} : gEq neg (.sh (.int i)) (.sh (.int j)) = some (.sh (.bool (neg ^^ decide (i = j)))) := by simp [gEq, fz, shaped_int, eqv_int]
theorem gEq_str {neg : Bool} {x y : Str} (hx : PyData.strOk x = true) (hy : PyData.strOk y = true) : gEq neg (.sh (.str x)) (.sh (.str y)) = some (.sh (.bool (neg ^^ decide (x = y)))) := by simp [gEq, fz, shaped_str, eqv_str, hx, hy]
theorem mulOk_l (h : -(2 ^ 64) < i ∧ i < 2 ^ 64) : mulOk i j = true := by unfold mulOk; rw [decide_eq_true h]; rfl
theorem mulOk_r (h : -(2 ^ 64) < j ∧ j < 2 ^ 64) : mulOk i j = true := by unfold mulOk; rw [decide_eq_true h]; simp
theorem log2_lt {n m : Nat} (h : n < 2 ^ m) (hm : 0 < m) : n.log2 < m := by
  by_cases e : n = 0
  · subst e; simpa using hm
  · exact (Nat.log2_lt e).mpr h
theorem mulOk_n {n m : Nat} (h1 : i.natAbs < 2 ^ n) (h2 : j.natAbs < 2 ^ m) (hn : 0 < n) (hm : 0 < m) (hs : n + m < 1000000) : mulOk i j = true := by
  unfold mulOk
  have a := log2_lt h1 hn
  have b := log2_lt h2 hm
  have : decide (i.natAbs.log2 + j.natAbs.log2 < 1000000) = true := decide_eq_true (by omega)
  rw [this, Bool.or_true]
theorem powOk_n {n : Nat} {k : Nat} (h1 : i.natAbs < 2 ^ n) (hs : n * k ≤ 2 ^ 27) : powOk i (k : Nat) = true := by
  unfold powOk
  have a : Builtin.Int.intBits i ≤ n := PySem.intBits_le_iff.mpr h1
  have b : Builtin.Int.intBits i * k ≤ n * k := Nat.mul_le_mul_right k a
  rw [Bool.and_eq_true]
  refine ⟨decide_eq_true (by omega), decide_eq_true ?_⟩
  have : ((Builtin.Int.intBits i * k : Nat) : Int) ≤ ((2 ^ 27 : Nat) : Int) := by exact_mod_cast Nat.le_trans b hs
  simpa using this
theorem divOk_n {n : Nat} (h0 : 0 < j) (h1 : j.natAbs < 2 ^ n) (hn : 0 < n) (hs : n ≤ 9000) : divOk i j = true := by
  unfold divOk
  have := log2_lt h1 hn
  rw [decide_eq_true h0, decide_eq_true (by omega : j.natAbs.log2 < 9000)]; rfl
end

theorem rngOk_of {i : Int} (h : -1000000000 ≤ i) (h2 : i ≤ 1000000000) : rngOk i = true := by
  unfold rngOk
  have a : (2 : Int) ^ 62 = 4611686018427387904 := by decide
  rw [a]
  exact decide_eq_true (by omega)
theorem iRange1_ok {f : Rho → Re} {ρ ρ1 : Rho} {j : Int} (h : f ρ = .ok (.sh (.int j)) ρ1) (hr : rngOk j = true) : iRange1 f ρ = .ok (upto 0 j.toNat) ρ1 := by
  unfold iRange1
  rw [h]
  simp only [hr, if_true]
theorem iRange2_ok {f : Rho → ReL} {ρ ρ1 : Rho} {i j : Int} (h : f ρ = .ok [.sh (.int i), .sh (.int j)] ρ1) (hr : rngOk i = true) (hr2 : rngOk j = true) : iRange2 f ρ = .ok (upto i (j - i).toNat) ρ1 := by
  unfold iRange2
  rw [h]
  simp only [hr, hr2, Bool.and_self, if_true]
theorem sFor_ok {fs : List Nat} {fi : Rho → ReI} {h : OV → Rho → Option Rho} {body : Rho → Out} {ρ ρ1 : Rho} {ds : List PyData} (q : fi ρ = .ok ds ρ1) : sFor fs fi h body ρ = forL fs h body ds (fgt fs ρ1) := by
  unfold sFor
  rw [q]
theorem iVal_ok {f : Rho → Re} {ρ ρ1 : Rho} {o : OV} {ds : List PyData} (h : f ρ = .ok o ρ1) (h2 : itemsOf (fz o) = some ds) : iVal f ρ = .ok ds ρ1 := by
  unfold iVal
  rw [h]
  simp only [h2]
theorem sz_le {n : Nat} (h : n ≤ 63) : (n ≤ sizeLine) = True := eq_true (Nat.le_trans h (by decide))
theorem sz_lt {n : Nat} (h : n ≤ 63) : (n < sizeLine) = True := eq_true (Nat.lt_of_le_of_lt h (by decide))
/-- no step of the kernel's own -/
theorem nrfl {α : Type} {a b : α} (h : a = b) : a = b := by
  cases h
  exact Eq.symm (Eq.refl a)
/-! computing: one step at a time -/
section
variable {ρ ρ1 ρ2 : Rho} {o : OV} {os : List OV} {b : Bool} {x : Exn} {ds : List PyData}
theorem bindE_ok {k : OV → Rho → Re} : bindE (.ok o ρ) k = k o ρ := nrfl rfl
theorem bindE_exc {k : OV → Rho → Re} : bindE (.exc x ρ) k = .exc x ρ := nrfl rfl
theorem bindEL_ok {k : OV → Rho → ReL} : bindEL (.ok o ρ) k = k o ρ := nrfl rfl
theorem bindL_ok {k : List OV → Rho → Re} : bindL (.ok os ρ) k = k os ρ := nrfl rfl
theorem bindLL_ok {k : List OV → Rho → ReL} : bindLL (.ok os ρ) k = k os ρ := nrfl rfl
theorem bindB_ok {k : Bool → Rho → Re} : bindB (.ok b ρ) k = k b ρ := nrfl rfl
theorem bindBB_ok {k : Bool → Rho → ReB} : bindBB (.ok b ρ) k = k b ρ := nrfl rfl
theorem bindEB_ok {k : OV → Rho → ReB} : bindEB (.ok o ρ) k = k o ρ := nrfl rfl
theorem bindS_ok {k : OV → Rho → Out} : bindS (.ok o ρ) k = k o ρ := nrfl rfl
theorem bindS_exc {k : OV → Rho → Out} : bindS (.exc x ρ) k = .exc x ρ := nrfl rfl
theorem bindBS_ok {k : Bool → Rho → Out} : bindBS (.ok b ρ) k = k b ρ := nrfl rfl
theorem ofO_some : ofO (some o) ρ = .ok o ρ := nrfl rfl
theorem ofRv_ok : ofRv (.ok o) ρ = .ok o ρ := nrfl rfl
theorem ofRv_exc : ofRv (.exc x) ρ = .exc x ρ := nrfl rfl
theorem toB_b : toB (.sh (.bool b)) ρ = .ok b ρ := nrfl rfl
theorem ofH_some : ofH (some ρ) = .next ρ := nrfl rfl
/-- what follows a statement -/
def seqO (r : Out) (g : Rho → Out) : Out := match r with
  | .next ρ => g ρ
  | r => r
theorem sCons_eq {g1 g2 : Rho → Out} : sCons g1 g2 ρ = seqO (g1 ρ) g2 := by
  unfold sCons seqO
  cases g1 ρ <;> rfl
theorem seqO_next {g : Rho → Out} : seqO (.next ρ) g = g ρ := nrfl rfl
theorem seqO_ret {g : Rho → Out} : seqO (.ret o ρ) g = .ret o ρ := nrfl rfl
theorem seqO_brk {g : Rho → Out} : seqO (.brk ρ) g = .brk ρ := nrfl rfl
theorem seqO_cnt {g : Rho → Out} : seqO (.cnt ρ) g = .cnt ρ := nrfl rfl
theorem seqO_exc {g : Rho → Out} : seqO (.exc x ρ) g = .exc x ρ := nrfl rfl
def finP : Out → Rv
  | .next _ => .ok (.sh .none)
  | .ret o _ => .ok o
  | .exc e _ => .exc e
  | _ => .stk
theorem runP_eq {m : Nat} {g : Rho → Out} : runP m g ds = finP (g (ds.map (fun d => some (.sh d)) ++ List.replicate (m - ds.length) none)) := by
  unfold runP finP
  generalize g (ds.map (fun d => some (.sh d)) ++ List.replicate (m - ds.length) none) = r
  cases r <;> rfl
theorem finP_ret : finP (.ret o ρ) = .ok o := nrfl rfl
theorem finP_next : finP (.next ρ) = .ok (.sh .none) := nrfl rfl
theorem finP_exc : finP (.exc x ρ) = .exc x := nrfl rfl
theorem eAnd_eq {fa fb : Rho → Re} : eAnd fa fb ρ = bindB (bindEB (fa ρ) toB) fun k ρ1 => if k = true then fb ρ1 else .ok (.sh (.bool false)) ρ1 := by
  unfold eAnd bindEB bindB bindE
  cases fa ρ with
  | ok o ρ1 =>
    cases o with
    | sh d => cases d with
      | bool z => cases z <;> rfl
      | _ => rfl
    | _ => rfl
  | exc e ρ1 => rfl
  | stk => rfl
theorem eOr_eq {fa fb : Rho → Re} : eOr fa fb ρ = bindB (bindEB (fa ρ) toB) fun k ρ1 => if k = true then .ok (.sh (.bool true)) ρ1 else fb ρ1 := by
  unfold eOr bindEB bindB bindE
  cases fa ρ with
  | ok o ρ1 =>
    cases o with
    | sh d => cases d with
      | bool z => cases z <;> rfl
      | _ => rfl
    | _ => rfl
  | exc e ρ1 => rfl
  | stk => rfl
theorem gNot_b : gNot (.sh (.bool b)) = some (.sh (.bool (!b))) := nrfl rfl
theorem ownT_lst : ownT (.lst os) = "list" := nrfl rfl
theorem mApp_ok (h : os.length < sizeLine) : mApp (.lst os) [o] = some (.lst (os ++ [o]), .sh .none) := by
  simp only [mApp]
  rw [if_pos h]
theorem dLen_list : dLen (.list ds) = some (.sh (.int ds.length)) := nrfl rfl
theorem dLen_tup : dLen (.tuple ds) = some (.sh (.int ds.length)) := nrfl rfl
theorem gSub_list {i : Int} : gSub (.sh (.list ds)) (.sh (.int i)) = (atI ds i).map .sh := by rw [gSub, fz, fz]
theorem gSub_tup {i : Int} : gSub (.sh (.tuple ds)) (.sh (.int i)) = (atI ds i).map .sh := by rw [gSub, fz, fz]
theorem ixN_of {n j : Nat} (h : j < n) : ixN n (j : Int) = some j := by
  have a : (0 : Int) ≤ j := by omega
  have b : (j : Int) < n := by omega
  unfold ixN
  rw [if_pos a, if_pos b, Int.toNat_natCast]
theorem fz_lst {xs : List OV} : fz (.lst xs) = .list (xs.map fz) := by rw [fz, fzs_eq]
theorem map_sh_fz {ds : List PyData} : (ds.map OV.sh).map fz = ds := by
  rw [List.map_map]
  conv => rhs; rw [← List.map_id ds]
  refine List.map_congr_left fun d _ => ?_
  show fz (.sh d) = d
  rw [fz]
theorem gSub_lst {xs : List OV} {i : Int} : gSub (.lst xs) (.sh (.int i)) = (atI (xs.map fz) i).map .sh := by rw [gSub, fz_lst, fz]
theorem gMax_two {two : Int → Int → Int} {many : List Int → Int} {i j : Int} : gMax two many [.sh (.int i), .sh (.int j)] = some (.sh (.int (two i j))) := by
  unfold gMax
  simp only [fz]
theorem dLen_lst {xs : List OV} : dLen (fz (.lst xs)) = some (.sh (.int xs.length)) := by rw [fz_lst]; simp [dLen]
theorem set_none_set {ρ : Rho} {i : Nat} {o : OV} : (ρ.set i none).set i (some o) = ρ.set i (some o) := by simp
theorem eMutS_ok {i n : Nat} {fk : Rho → Re} {fl : Rho → ReL} {g : OV → List OV → Option (OV × OV)} {xs ys : List OV} {j : Int} {o' res : OV} (h0 : ρ[i]? = some (some (.lst xs))) (hk : fk ρ = .ok (.sh (.int j)) ρ) (hj : ixN xs.length j = some n) (ho : xs[n]? = some (.lst ys))
    (hl : fl (ρ.set i none) = .ok os (ρ.set i none)) (hg : g (.lst ys) os = some (o', res)) : eMutS i "list" g fk fl ρ = .ok res (ρ.set i (some (.lst (xs.set n o')))) := by
  have hi : i < ρ.length := (List.getElem?_eq_some_iff.mp h0).1
  have ov : isOv ρ i = true := by unfold isOv; rw [h0]
  have no : isNo (ρ.set i none) i = true := by unfold isNo; rw [List.getElem?_set_self hi]
  have e1 : subO (.lst xs) (.int j) = some (.lst ys) := by simp only [subO, hj, Option.bind_some, ho]
  have e2 : putO (.lst xs) (.int j) o' = .lst (xs.set n o') := by simp only [putO, hj]
  unfold eMutS
  rw [if_pos ov, hk]
  simp only [bindE, h0, fz, e1, ownT, if_true, hl, ofN, hg, no, e2, List.set_set]
theorem fz_sh {d : PyData} : fz (.sh d) = d := by rw [fz]
theorem eTup_sh {fl : Rho → ReL} : eTup fl ρ = bindL (fl ρ) fun os ρ1 => if os.length ≤ sizeLine then .ok (.sh (.tuple (os.map fz))) ρ1 else .stk := nrfl rfl
end
/-! loops -/
/-- a loop that runs to its end: P i: what holds ahead of turn i -/
theorem forL_run {fs : List Nat} {h : OV → Rho → Option Rho} {body : Rho → Out} (P : Nat → Rho → Prop) : ∀ (ds : List PyData) (i : Nat) (ρ : Rho), P i ρ →
    (∀ (k : Nat) (d : PyData) (ρ : Rho), ds[k]? = some d → P (i + k) ρ → ∃ ρ1 ρ2, h (.sh d) ρ = some ρ1 ∧ (body ρ1 = .next ρ2 ∨ body ρ1 = .cnt ρ2) ∧ P (i + k + 1) (fgt fs ρ2)) →
    ∃ ρ', forL fs h body ds ρ = .next ρ' ∧ P (i + ds.length) ρ'
  | [], i, ρ, hp, _ => ⟨ρ, rfl, hp⟩
  | d :: ds, i, ρ, hp, hs => by
    obtain ⟨ρ1, ρ2, h1, h2, h3⟩ := hs 0 d ρ rfl hp
    obtain ⟨ρ', h4, h5⟩ := forL_run P ds (i + 1) (fgt fs ρ2) h3 fun k d' ρ' hk hp' => by
      have e : i + 1 + k = i + (k + 1) := by omega
      rw [e] at hp' ⊢
      exact hs (k + 1) d' ρ' (by simpa using hk) hp'
    refine ⟨ρ', ?_, by rw [List.length_cons]; have e : i + (ds.length + 1) = i + 1 + ds.length := by omega
                       rw [e]; exact h5⟩
    unfold forL
    rw [h1]
    rcases h2 with h2 | h2 <;> simp only [h2] <;> exact h4
/-- the state ahead of every turn is the same -/
theorem forL_same {fs : List Nat} {h : OV → Rho → Option Rho} {body : Rho → Out} {ds : List PyData} {ρ : Rho}
    (hs : ∀ d ∈ ds, ∃ ρ1 ρ2, h (.sh d) ρ = some ρ1 ∧ (body ρ1 = .next ρ2 ∨ body ρ1 = .cnt ρ2) ∧ fgt fs ρ2 = ρ) : forL fs h body ds ρ = .next ρ := by
  obtain ⟨ρ', h1, h2⟩ := forL_run (fs := fs) (h := h) (body := body) (fun _ z => z = ρ) ds 0 ρ rfl fun k d ρ' hk hp => by
    subst hp
    exact hs d (List.mem_of_getElem? hk)
  rw [h1, h2]
/-- a loop as a fold -/
theorem forL_fold {α : Type} {fs : List Nat} {h : OV → Rho → Option Rho} {body : Rho → Out} (st : α → Rho) (f : α → PyData → α) : ∀ (ds : List PyData) (a : α),
    (∀ d ∈ ds, ∀ a, ∃ ρ1 ρ2, h (.sh d) (st a) = some ρ1 ∧ (body ρ1 = .next ρ2 ∨ body ρ1 = .cnt ρ2) ∧ fgt fs ρ2 = st (f a d)) → forL fs h body ds (st a) = .next (st (ds.foldl f a))
  | [], a, _ => rfl
  | d :: ds, a, hs => by
    obtain ⟨ρ1, ρ2, h1, h2, h3⟩ := hs d List.mem_cons_self a
    unfold forL
    rw [h1]
    have := forL_fold st f ds (f a d) fun d' hd' => hs d' (List.mem_cons_of_mem _ hd')
    rw [← h3] at this
    rcases h2 with h2 | h2 <;> simp only [h2] <;> rw [this, List.foldl_cons]
theorem upto_mem {lo : Int} {n : Nat} {d : PyData} : d ∈ upto lo n ↔ ∃ k : Nat, k < n ∧ d = .int (lo + k) := by
  unfold upto
  simp only [List.mem_map, List.mem_range]
  constructor
  · rintro ⟨k, h, rfl⟩; exact ⟨k, h, rfl⟩
  · rintro ⟨k, h, rfl⟩; exact ⟨k, h, rfl⟩
theorem upto_get {lo : Int} {n k : Nat} {d : PyData} (h : (upto lo n)[k]? = some d) : k < n ∧ d = .int (lo + k) := by
  unfold upto at h
  rw [List.getElem?_map] at h
  obtain ⟨m, h1, rfl⟩ := Option.map_eq_some_iff.mp h
  have h2 := List.getElem?_eq_some_iff.mp h1
  obtain ⟨h3, h4⟩ := h2
  simp at h3 h4
  subst h4
  exact ⟨h3, rfl⟩
theorem upto_len {lo : Int} {n : Nat} : (upto lo n).length = n := by simp [upto]
/-- a comprehension over what is shared, without a test -/
theorem compL_map {vs : List Nat} {h : OV → Rho → Option Rho} {te : Rho → Re} {ρ : Rho} (f : PyData → OV) : ∀ (ds : List PyData) (k : Nat), k + ds.length ≤ sizeLine →
    (∀ d ∈ ds, ∃ ρ1 ρ2, h (.sh d) ρ = some ρ1 ∧ te ρ1 = .ok (f d) ρ2 ∧ fgt vs ρ2 = ρ) → compL vs h tYesR te ds k ρ = .ok (ds.map f) ρ
  | [], _, _, _ => rfl
  | d :: ds, k, hk, hs => by
    obtain ⟨ρ1, ρ2, h1, h2, h3⟩ := hs d List.mem_cons_self
    rw [List.length_cons] at hk
    have := compL_map f ds (k + 1) (by omega) fun d' hd' => hs d' (List.mem_cons_of_mem _ hd')
    unfold compL
    have ty : tYesR ρ1 = .ok true ρ1 := rfl
    simp only [h1, ty, h2, h3]
    rw [if_pos (by omega)]
    simp only [this, List.map_cons]
/-- .. with a test -/
theorem compL_filter {vs : List Nat} {h : OV → Rho → Option Rho} {tt : Rho → ReB} {te : Rho → Re} {ρ : Rho} (p : PyData → Bool) (f : PyData → OV) : ∀ (ds : List PyData) (k : Nat), k + ds.length ≤ sizeLine →
    (∀ d ∈ ds, ∃ ρ1 ρ2, h (.sh d) ρ = some ρ1 ∧ tt ρ1 = .ok (p d) ρ2 ∧ (p d = false → fgt vs ρ2 = ρ) ∧ (p d = true → ∃ ρ3, te ρ2 = .ok (f d) ρ3 ∧ fgt vs ρ3 = ρ)) → compL vs h tt te ds k ρ = .ok ((ds.filter p).map f) ρ
  | [], _, _, _ => rfl
  | d :: ds, k, hk, hs => by
    obtain ⟨ρ1, ρ2, h1, h2, h3, h4⟩ := hs d List.mem_cons_self
    rw [List.length_cons] at hk
    unfold compL
    cases q : p d with
    | false =>
      have := compL_filter p f ds k (by omega) fun d' hd' => hs d' (List.mem_cons_of_mem _ hd')
      simp only [h1, h2, q, h3 q, this]
      rw [List.filter_cons_of_neg (by simp [q])]
    | true =>
      obtain ⟨ρ3, h5, h6⟩ := h4 q
      have := compL_filter p f ds (k + 1) (by omega) fun d' hd' => hs d' (List.mem_cons_of_mem _ hd')
      simp only [h1, h2, q, h5, h6]
      rw [if_pos (by omega)]
      simp only [this]
      rw [List.filter_cons_of_pos q, List.map_cons]
theorem eLc_ok {vs : List Nat} {fi : Rho → ReI} {h : OV → Rho → Option Rho} {tt : Rho → ReB} {te : Rho → Re} {ρ ρ1 ρ2 : Rho} {ds : List PyData} {os : List OV} (q : fi ρ = .ok ds ρ1) (c : compL vs h tt te ds 0 (fgt vs ρ1) = .ok os ρ2) : eLc vs fi h tt te ρ = .ok (.lst os) (relay vs ρ1 ρ2) := by
  unfold eLc
  rw [q]
  simp only [c]
section
variable {α : Type} {a b c d e f g : α} {xs : List α}
theorem atI_l0 : atI (a :: xs) 0 = some a := atI_nat (j := 0) rfl
theorem atI_l1 : atI (a :: b :: xs) 1 = some b := atI_nat (j := 1) rfl
theorem atI_l2 : atI (a :: b :: c :: xs) 2 = some c := atI_nat (j := 2) rfl
theorem atI_l3 : atI (a :: b :: c :: d :: xs) 3 = some d := atI_nat (j := 3) rfl
theorem atI_l4 : atI (a :: b :: c :: d :: e :: xs) 4 = some e := atI_nat (j := 4) rfl
theorem atI_l5 : atI (a :: b :: c :: d :: e :: f :: xs) 5 = some f := atI_nat (j := 5) rfl
theorem atI_l6 : atI (a :: b :: c :: d :: e :: f :: g :: xs) 6 = some g := atI_nat (j := 6) rfl
end
end Ev
namespace Ev
open PySem PySem.Spec L2
open PyProof.Rows hiding St
local macro_rules | `(tactic| decreasing_trivial_pre_omega) => `(tactic| simp only [sCons_eq, seqO_next, seqO_ret, seqO_brk, seqO_cnt, seqO_exc, sNil, sSet, sIf, sRet, sRetN, sExpr, sPass, sBrk, sCnt, sAsg, ofH_some, sPar, bindE_ok, bindE_exc, bindEL_ok, bindL_ok, bindLL_ok, bindB_ok, bindBB_ok, bindEB_ok, bindS_ok, bindS_exc, bindBS_ok, cC, eV, eM, eBin, eUn, ofO_some, gAdd_int, gII_ok, gI_int, gOrd_int, gEq_int, fz_sh, fz_lst, eTest, toB_b, bNot, bAnd, bOr, gNot_b, eAnd_eq, eOr_eq, eIf, lNil, lCons, eTup, eLst, eCall, ofRv_ok, ofRv_exc, eFn, g1, gMax_two, hName, hCons, hNil, hTup, fgt, eMut, ofM, mApp_ok, ownT_lst, dLen_list, dLen_tup, gSub_list, gSub_tup, gSub_lst, atI_l0, atI_l1, atI_l2, atI_l3, atI_l4, atI_l5, atI_l6, Option.map_some, runP_eq, finP_ret, finP_next, finP_exc, List.getElem?_cons_zero, List.getElem?_cons_succ, List.set_cons_zero, List.set_cons_succ, List.map_cons, List.map_nil, List.replicate, List.cons_append, List.nil_append, if_true, if_false, Bool.false_eq_true, decide_true, Bool.false_xor, Bool.true_xor, decide_eq_true_eq, List.length_cons, List.length_nil, Nat.reduceAdd, Nat.reduceSub, Nat.reduceMul, Int.reduceLT, Int.reduceEq, Int.reduceSub, Int.reduceAdd, Int.reduceNeg, Int.reduceLE, Int.reduceToNat, sz_le, sz_lt, Nat.reduceLeDiff, Nat.reduceLT, Bool.not_true, Bool.not_false, Bool.true_and, Bool.and_true, Bool.false_or, Bool.or_false])
local macro_rules | `(tactic| get_elem_tactic_trivial) => `(tactic| simp only [sCons_eq, seqO_next, seqO_ret, seqO_brk, seqO_cnt, seqO_exc, sNil, sSet, sIf, sRet, sRetN, sExpr, sPass, sBrk, sCnt, sAsg, ofH_some, sPar, bindE_ok, bindE_exc, bindEL_ok, bindL_ok, bindLL_ok, bindB_ok, bindBB_ok, bindEB_ok, bindS_ok, bindS_exc, bindBS_ok, cC, eV, eM, eBin, eUn, ofO_some, gAdd_int, gII_ok, gI_int, gOrd_int, gEq_int, fz_sh, fz_lst, eTest, toB_b, bNot, bAnd, bOr, gNot_b, eAnd_eq, eOr_eq, eIf, lNil, lCons, eTup, eLst, eCall, ofRv_ok, ofRv_exc, eFn, g1, gMax_two, hName, hCons, hNil, hTup, fgt, eMut, ofM, mApp_ok, ownT_lst, dLen_list, dLen_tup, gSub_list, gSub_tup, gSub_lst, atI_l0, atI_l1, atI_l2, atI_l3, atI_l4, atI_l5, atI_l6, Option.map_some, runP_eq, finP_ret, finP_next, finP_exc, List.getElem?_cons_zero, List.getElem?_cons_succ, List.set_cons_zero, List.set_cons_succ, List.map_cons, List.map_nil, List.replicate, List.cons_append, List.nil_append, if_true, if_false, Bool.false_eq_true, decide_true, Bool.false_xor, Bool.true_xor, decide_eq_true_eq, List.length_cons, List.length_nil, Nat.reduceAdd, Nat.reduceSub, Nat.reduceMul, Int.reduceLT, Int.reduceEq, Int.reduceSub, Int.reduceAdd, Int.reduceNeg, Int.reduceLE, Int.reduceToNat, sz_le, sz_lt, Nat.reduceLeDiff, Nat.reduceLT, Bool.not_true, Bool.not_false, Bool.true_and, Bool.and_true, Bool.false_or, Bool.or_false, *])
/-! ### what every law draws -/
def b_stir : Rho → Out :=
  (sCons (sSet 2 (eMul (eBin gAdd (eBin gAdd (eMod (eV 0) (ePow (cC (.int 10)) (cC (.int 60)))) (eMul (cC (.int 7919)) (eV 1))) (cC (.int 1))) (cC (.int 27182818284590452353602874713527))))
    (sCons (sSet 2 (eMod (eV 2) (cC (.int 170141183460469231731687303715884105727))))
    (sCons (sRet (eFdiv (eMod (ePow (eBin gAdd (ePow (eV 2) (cC (.int 5))) (eMul (cC (.int 48271)) (eV 1))) (cC (.int 3))) (cC (.int 162259276829213363391578010288127))) (cC (.int 7))))
    sNil)))
def m_stir : List PyData → Rv := runP 3 b_stir
def stirN (cell k : Int) : Int := ((cell % 10 ^ 60 + 7919 * k + 1) * 27182818284590452353602874713527) % 170141183460469231731687303715884105727
def stir (cell k : Int) : Int := ((stirN cell k) ^ 5 + 48271 * k) ^ 3 % 162259276829213363391578010288127 / 7
set_option exponentiation.threshold 2000 in
theorem stir_eq {cell k : Int} (h0 : 0 ≤ k) (h1 : k < 2 ^ 20) : m_stir [.int cell, .int k] = .ok (.sh (.int (stir cell k))) := by
  have p10 : powOk 10 60 = true := by decide +kernel
  have b0 : 0 ≤ stirN cell k ∧ stirN cell k < 170141183460469231731687303715884105727 := by unfold stirN; omega
  have c0 : 0 ≤ cell % 10 ^ 60 ∧ cell % 10 ^ 60 < 10 ^ 60 := by omega
  have m1 : mulOk (cell % 10 ^ 60 + 7919 * k + 1) 27182818284590452353602874713527 = true := mulOk_n (n := 210) (m := 110) (by omega) (by decide) (by decide) (by decide) (by decide)
  have p5 : powOk (stirN cell k) 5 = true := powOk_n (n := 127) (k := 5) (by omega) (by decide)
  have p3 : powOk ((stirN cell k) ^ 5 + 48271 * k) 3 = true := powOk_n (n := 700) (k := 3) (by
    obtain ⟨n, hn⟩ := Int.eq_ofNat_of_zero_le b0.1
    obtain ⟨j, hj⟩ := Int.eq_ofNat_of_zero_le h0
    rw [hn, hj]
    have e : ((n : Int) ^ 5 + 48271 * (j : Int)) = ((n ^ 5 + 48271 * j : Nat) : Int) := by
      simp
    rw [e, Int.natAbs_natCast]
    have hn2 : n ≤ 2 ^ 127 := by omega
    have h5 : n ^ 5 ≤ (2 ^ 127) ^ 5 := Nat.pow_le_pow_left hn2 5
    have hj2 : j < 2 ^ 20 := by omega
    have e2 : (2 ^ 127) ^ 5 = 2 ^ 635 := by rw [← Nat.pow_mul]
    rw [e2] at h5
    omega) (by decide)
  have d7 : divOk (((stirN cell k) ^ 5 + 48271 * k) ^ 3 % 162259276829213363391578010288127) 7 = true := (by decide +kernel : divOk 0 7 = true)
  have t1 : (60 : Int).toNat = 60 := rfl
  have t2 : (5 : Int).toNat = 5 := rfl
  have t3 : (3 : Int).toNat = 3 := rfl
  have k1 : mulOk 7919 k = true := mulOk_l (by decide)
  have k2 : mulOk 48271 k = true := mulOk_l (by decide)
  have z60 : (0 : Int) < 10 ^ 60 := by decide
  unfold m_stir b_stir
  unfold stirN at p5 p3 d7
  get_elem_tactic_trivial
  rfl

def b_drawn : Rho → Out :=
  (sCons (sSet 2 (eLst lNil))
    (sCons (sSet 3 (eV 0))
    (sCons (sFor [4] (iRange1 (eFn (g1 dLen) (lCons (eV 1) lNil))) (hName 4) (sCons (sIf (bOr (eTest (eBin (gLt) (eV 0) (ePow (cC (.int 10)) (cC (.int 18))))) (eTest (eBin (gEq false) (eV 3) (cC (.int 0))))) (sCons (sExpr (eMut 2 "list" mApp (lCons (eMod (eCall m_stir (lCons (eV 0) (lCons (eV 4) lNil))) (eBin gSub (eV 1) (eV 4))) lNil)))
    sNil) (sCons (sExpr (eMut 2 "list" mApp (lCons (eMod (eV 3) (eBin gSub (eV 1) (eV 4))) lNil)))
    (sCons (sSet 3 (eFdiv (eV 3) (eBin gSub (eV 1) (eV 4))))
    sNil)))
    sNil))
    (sCons (sRet (eM 2))
    sNil))))
def m_drawn : List PyData → Rv := runP 5 b_drawn
abbrev iOs (xs : List Int) : List OV := xs.map fun x => .sh (.int x)
abbrev iDs (xs : List Int) : PyData := .list (xs.map .int)
/-- what is drawn: one number below each size -/
def Drawn (xs sizes : List Int) : Prop := xs.length = sizes.length ∧ ∀ (k : Nat) (x s : Int), xs[k]? = some x → sizes[k]? = some s → 0 ≤ x ∧ x < s
theorem drawn_ok {cell : Int} {sizes : List Int} (hs : ∀ s ∈ sizes, 0 < s ∧ s < 2 ^ 62) (hl : sizes.length ≤ 63) : ∃ xs, m_drawn [.int cell, iDs sizes] = .ok (.lst (iOs xs)) ∧ Drawn xs sizes := by
  have p18 : powOk 10 18 = true := by decide +kernel
  obtain ⟨ρ', h1, rest, xs, h2, h3, h4⟩ := forL_run (fs := [4]) (h := hName 4) (body := (sCons (sIf (bOr (eTest (eBin (gLt) (eV 0) (ePow (cC (.int 10)) (cC (.int 18))))) (eTest (eBin (gEq false) (eV 3) (cC (.int 0))))) (sCons (sExpr (eMut 2 "list" mApp (lCons (eMod (eCall m_stir (lCons (eV 0) (lCons (eV 4) lNil))) (eBin gSub (eV 1) (eV 4))) lNil)))
    sNil) (sCons (sExpr (eMut 2 "list" mApp (lCons (eMod (eV 3) (eBin gSub (eV 1) (eV 4))) lNil)))
    (sCons (sSet 3 (eFdiv (eV 3) (eBin gSub (eV 1) (eV 4))))
    sNil)))
    sNil))
    (fun i ρ => ∃ (rest : Int) (xs : List Int), ρ = [some (.sh (.int cell)), some (.sh (iDs sizes)), some (.lst (iOs xs)), some (.sh (.int rest)), none] ∧ xs.length = i ∧ ∀ (k : Nat) (x s : Int), xs[k]? = some x → sizes[k]? = some s → 0 ≤ x ∧ x < s)
    (upto 0 sizes.length) 0 [some (.sh (.int cell)), some (.sh (iDs sizes)), some (.lst (iOs [])), some (.sh (.int cell)), none] ⟨cell, [], rfl, rfl, by simp⟩ (fun k d ρ hk hp => by
      obtain ⟨rest, xs, rfl, hx, hb⟩ := hp
      obtain ⟨hk1, rfl⟩ := upto_get hk
      have hx' : xs.length = k := by omega
      have g0 : sizes[k]? = some sizes[k] := List.getElem?_eq_getElem hk1
      have hsk := hs sizes[k] (List.getElem_mem hk1)
      have at1 : atI (sizes.map PyData.int) (0 + (k : Nat)) = some (.int sizes[k]) := by
        rw [Int.zero_add]
        exact atI_nat (by rw [List.getElem?_map, g0]; rfl)
      have lz : (iOs xs).length < sizeLine := by rw [sizeLine_eq, iOs, List.length_map]; omega
      have st := stir_eq (cell := cell) (k := 0 + (k : Nat)) (by omega) (by omega)
      have key : ∀ y : Int, 0 ≤ y → y < sizes[k] → ∀ (j : Nat) (x s : Int), (xs ++ [y])[j]? = some x → sizes[j]? = some s → 0 ≤ x ∧ x < s := fun y y0 y1 j x s h1 h2 => by
        by_cases e : j < xs.length
        · rw [List.getElem?_append_left e] at h1
          exact hb j x s h1 h2
        · rw [List.getElem?_append_right (by omega)] at h1
          have : j = xs.length := by
            have := (List.getElem?_eq_some_iff.mp h1).1
            simp at this
            omega
          subst this
          simp at h1
          subst h1
          rw [hx', g0] at h2
          cases h2
          exact ⟨y0, y1⟩
      have t18 : (18 : Int).toNat = 18 := rfl
      have q0 : 0 < sizes[k] := hsk.1
      by_cases h18 : cell < 10 ^ 18
      · refine ⟨_, [some (.sh (.int cell)), some (.sh (iDs sizes)), some (.lst (iOs (xs ++ [stir cell (0 + (k : Nat)) % sizes[k]]))), some (.sh (.int rest)), some (.sh (.int (0 + (k : Nat))))], rfl, .inl ?_, rest, xs ++ [stir cell (0 + (k : Nat)) % sizes[k]], rfl, by simp; omega, key _ (Int.emod_nonneg _ (by omega)) (Int.emod_lt_of_pos _ hsk.1)⟩
        get_elem_tactic_trivial
        rw [iOs, iOs, List.map_append]; rfl
      · by_cases hr : rest = 0
        · refine ⟨_, [some (.sh (.int cell)), some (.sh (iDs sizes)), some (.lst (iOs (xs ++ [stir cell (0 + (k : Nat)) % sizes[k]]))), some (.sh (.int (rest))), some (.sh (.int (0 + (k : Nat))))], rfl, .inl ?_, rest, xs ++ [stir cell (0 + (k : Nat)) % sizes[k]], rfl, by simp; omega, key _ (Int.emod_nonneg _ (by omega)) (Int.emod_lt_of_pos _ hsk.1)⟩
          get_elem_tactic_trivial
          rw [iOs, iOs, List.map_append]; rfl
        · have dv : divOk rest sizes[k] = true := divOk_n (n := 62) hsk.1 (by omega) (by decide) (by decide)
          refine ⟨_, [some (.sh (.int cell)), some (.sh (iDs sizes)), some (.lst (iOs (xs ++ [rest % sizes[k]]))), some (.sh (.int (rest / sizes[k]))), some (.sh (.int (0 + (k : Nat))))], rfl, .inl ?_, rest / sizes[k], xs ++ [rest % sizes[k]], rfl, by simp; omega, key _ (Int.emod_nonneg _ (by omega)) (Int.emod_lt_of_pos _ hsk.1)⟩
          get_elem_tactic_trivial
          rw [iOs, iOs, List.map_append]; rfl)
  rw [upto_len] at h3
  refine ⟨xs, ?_, by rw [h3]; omega, h4⟩
  have rg : rngOk (sizes.length : Nat) = true := rngOk_of (by omega) (by omega)
  unfold m_drawn b_drawn
  decreasing_trivial_pre_omega
  rw [sFor_ok (iRange1_ok (ρ1 := [some (.sh (.int cell)), some (.sh (iDs sizes)), some (.lst []), some (.sh (.int cell)), none]) (j := (sizes.length : Nat)) (by decreasing_trivial_pre_omega; rw [List.length_map]) rg)]
  decreasing_trivial_pre_omega
  rw [Int.toNat_natCast, show OV.lst [] = OV.lst (iOs []) from rfl, h1, h2]
  decreasing_trivial_pre_omega
theorem cutD_map {α β : Type} (f : α → β) (xs : List α) (lo hi : Option Int) : cutD (xs.map f) lo hi = (cutD xs lo hi).map f := by
  unfold cutD
  rw [List.length_map, List.map_take, List.map_drop]
theorem cutD_len {α : Type} (xs : List α) (lo hi : Option Int) : (cutD xs lo hi).length ≤ xs.length := by
  unfold cutD
  rw [List.length_take, List.length_drop]
  omega
theorem gAdd_lst {xs ys : List OV} (h : xs.length + ys.length ≤ sizeLine) : gAdd (.lst xs) (.lst ys) = some (.lst ((xs.map fz ++ ys.map fz).map .sh)) := by
  unfold gAdd
  rw [fz_lst, fz_lst]
  simp only [List.length_map, h, if_true]
/-- [0] + script[:n], walked -/
theorem scriptIter {ns : List Int} {ρ : Rho} {n : Int} (h : ns.length ≤ 63) : ∃ ms : List Int, iVal (eBin gAdd (eLst (lCons (cC (.int 0)) lNil)) (eSl (eV 0) none (some (cC (.int n))))) (some (.sh (iDs ns)) :: ρ) = .ok (ms.map .int) (some (.sh (iDs ns)) :: ρ) := by
  refine ⟨0 :: cutD ns none (some n), iVal_ok (o := .lst ((PyData.int 0 :: (cutD ns none (some n)).map .int).map .sh)) ?_ ?_⟩
  · have c : gSl (.sh (iDs ns)) none (some n) = some (.lst (((cutD ns none (some n)).map PyData.int).map .sh)) := by
      unfold gSl
      simp only [fz_sh, cutD_map]
    have hl := cutD_len ns none (some n)
    have g : gAdd (.lst [.sh (.int 0)]) (.lst (((cutD ns none (some n)).map PyData.int).map .sh)) = some (.lst ((PyData.int 0 :: (cutD ns none (some n)).map .int).map .sh)) := by
      rw [gAdd_lst (by simp only [List.length_map, List.length_cons, List.length_nil, sizeLine_eq]; omega), map_sh_fz]
      rfl
    unfold eSl partR
    decreasing_trivial_pre_omega
    rw [c]
    decreasing_trivial_pre_omega
    rw [g]
    decreasing_trivial_pre_omega
  · rw [fz_lst, map_sh_fz]; rfl
end Ev
namespace K23
open PySem PySem.Spec L2 Ev
open PyProof.Rows hiding St
def topS (i : Nat) : Stmt := PySem.Challenge.pw_fleethide_k23_how_many_a_net_has.main.body.getD i (.Pass ⟨0, 0, 0, 0⟩)
abbrev s_net_cells : Stmt := topS 1
abbrev N_net_cells : List Str := ["rows", "columns", "length", "nets", "row", "column", "place", "rest"]
theorem sc_net_cells : FnScope N_net_cells ["rows", "columns", "length"] (defScope s_net_cells) := ⟨rfl, rfl, rfl, by decide +kernel, rfl, by decide +kernel, by decide +kernel⟩
def b_net_cells_1 : Rho → Out :=
  (sCons (sSet 6 (eBin gAdd (eV 4) (eV 5)))
    (sCons (sIf (eTest (eBin (gGt) (eV 2) (eV 0))) (sCons (sSet 6 (eBin gAdd (eV 5) (cC (.int 1))))
    sNil) sNil)
    (sCons (sIf (eTest (eBin (gGt) (eV 2) (eV 1))) (sCons (sSet 6 (eBin gAdd (eV 4) (cC (.int 1))))
    sNil) sNil)
    (sCons (sExpr (eMutS 3 "list" mApp (eMod (eV 6) (eV 2)) (lCons (eTup (lCons (eV 4) (lCons (eV 5) lNil))) lNil)))
    sNil))))
def b_net_cells_2 : Rho → Out :=
  (sCons (sFor [5, 6] (iRange1 (eV 1)) (hName 5) b_net_cells_1)
    sNil)
def b_net_cells : Rho → Out :=
  (sCons (sIf (bAnd (eTest (eBin (gGt) (eV 2) (eV 0))) (eTest (eBin (gGt) (eV 2) (eV 1)))) (sCons (sRet (eLst lNil))
    sNil) sNil)
    (sCons (sSet 3 (eLc [7] (iRange1 (eV 2)) (hName 7) tYesR (eLst lNil)))
    (sCons (sFor [4, 5, 6] (iRange1 (eV 0)) (hName 4) b_net_cells_2)
    (sCons (sIf (bOr (eTest (eBin (gGt) (eV 2) (eV 0))) (eTest (eBin (gGt) (eV 2) (eV 1)))) (sCons (sRet (eBin gSub (eV 3) (cC (.int 0))))
    sNil) sNil)
    (sCons (sRet (eFn (g1 dMinLen) (lCons (eV 3) lNil)))
    sNil)))))
def m_net_cells : List PyData → Rv := runP 8 b_net_cells
abbrev s_least_net : Stmt := topS 2
abbrev N_least_net : List Str := ["rows", "columns", "length"]
theorem sc_least_net : FnScope N_least_net ["rows", "columns", "length"] (defScope s_least_net) := ⟨rfl, rfl, rfl, by decide +kernel, rfl, by decide +kernel, by decide +kernel⟩
def b_least_net : Rho → Out :=
  (sCons (sRet (eFn (g1 dLen) (lCons (eCall m_net_cells (lCons (eV 0) (lCons (eV 1) (lCons (eV 2) lNil)))) lNil)))
    sNil)
def m_least_net : List PyData → Rv := runP 3 b_least_net
abbrev s__law_stir : Stmt := topS 4
abbrev N__law_stir : List Str := ["cell", "k", "number"]
theorem sc__law_stir : FnScope N__law_stir ["cell", "k"] (defScope s__law_stir) := ⟨rfl, rfl, rfl, by decide +kernel, rfl, by decide +kernel, by decide +kernel⟩
def b__law_stir : Rho → Out :=
  (sCons (sSet 2 (eMul (eBin gAdd (eBin gAdd (eMod (eV 0) (ePow (cC (.int 10)) (cC (.int 60)))) (eMul (cC (.int 7919)) (eV 1))) (cC (.int 1))) (cC (.int 27182818284590452353602874713527))))
    (sCons (sSet 2 (eMod (eV 2) (cC (.int 170141183460469231731687303715884105727))))
    (sCons (sRet (eFdiv (eMod (ePow (eBin gAdd (ePow (eV 2) (cC (.int 5))) (eMul (cC (.int 48271)) (eV 1))) (cC (.int 3))) (cC (.int 162259276829213363391578010288127))) (cC (.int 7))))
    sNil)))
def m__law_stir : List PyData → Rv := runP 3 b__law_stir
abbrev s__law_drawn : Stmt := topS 5
abbrev N__law_drawn : List Str := ["cell", "sizes", "found", "rest", "k"]
theorem sc__law_drawn : FnScope N__law_drawn ["cell", "sizes"] (defScope s__law_drawn) := ⟨rfl, rfl, rfl, by decide +kernel, rfl, by decide +kernel, by decide +kernel⟩
def b__law_drawn_1 : Rho → Out :=
  (sCons (sIf (bOr (eTest (eBin (gLt) (eV 0) (ePow (cC (.int 10)) (cC (.int 18))))) (eTest (eBin (gEq false) (eV 3) (cC (.int 0))))) (sCons (sExpr (eMut 2 "list" mApp (lCons (eMod (eCall m__law_stir (lCons (eV 0) (lCons (eV 4) lNil))) (eBin gSub (eV 1) (eV 4))) lNil)))
    sNil) (sCons (sExpr (eMut 2 "list" mApp (lCons (eMod (eV 3) (eBin gSub (eV 1) (eV 4))) lNil)))
    (sCons (sSet 3 (eFdiv (eV 3) (eBin gSub (eV 1) (eV 4))))
    sNil)))
    sNil)
def b__law_drawn : Rho → Out :=
  (sCons (sSet 2 (eLst lNil))
    (sCons (sSet 3 (eV 0))
    (sCons (sFor [4] (iRange1 (eFn (g1 dLen) (lCons (eV 1) lNil))) (hName 4) b__law_drawn_1)
    (sCons (sRet (eM 2))
    sNil))))
def m__law_drawn : List PyData → Rv := runP 5 b__law_drawn
abbrev s__law_whole : Stmt := topS 6
abbrev N__law_whole : List Str := ["thing"]
theorem sc__law_whole : FnScope N__law_whole ["thing"] (defScope s__law_whole) := ⟨rfl, rfl, rfl, by decide +kernel, rfl, by decide +kernel, by decide +kernel⟩
def b__law_whole : Rho → Out :=
  (sCons (sRet (eAnd (eFn (gIsi "int") (lCons (eV 0) lNil)) (eUn gNot (eFn (gIsi "bool") (lCons (eV 0) lNil)))))
    sNil)
def m__law_whole : List PyData → Rv := runP 1 b__law_whole
abbrev s__law_least_net : Stmt := topS 7
abbrev N__law_least_net : List Str := ["rows", "columns", "length", "over", "beside", "hole"]
theorem sc__law_least_net : FnScope N__law_least_net ["rows", "columns", "length"] (defScope s__law_least_net) := ⟨rfl, rfl, rfl, by decide +kernel, rfl, by decide +kernel, by decide +kernel⟩
def b__law_least_net : Rho → Out :=
  (sCons (sIf (bAnd (eTest (eBin (gGt) (eV 2) (eV 0))) (eTest (eBin (gGt) (eV 2) (eV 1)))) (sCons (sRet (cC (.int 0)))
    sNil) sNil)
    (sCons (sIf (eTest (eBin (gGt) (eV 2) (eV 0))) (sCons (sRet (eMul (eV 0) (eFdiv (eV 1) (eV 2))))
    sNil) sNil)
    (sCons (sIf (eTest (eBin (gGt) (eV 2) (eV 1))) (sCons (sRet (eMul (eV 1) (eFdiv (eV 0) (eV 2))))
    sNil) sNil)
    (sCons (sPar 3 4 (lCons (eMod (eV 0) (eV 2)) (lCons (eMod (eV 1) (eV 2)) lNil)))
    (sCons (sSet 5 (eIf (eTest (eBin (gLe) (eBin gAdd (eV 3) (eV 4)) (eV 2))) (eMul (eV 3) (eV 4)) (eMul (eSub (eV 2) (eV 3)) (eSub (eV 2) (eV 4)))))
    (sCons (sRet (eFdiv (eSub (eMul (eV 0) (eV 1)) (eV 5)) (eV 2)))
    sNil))))))
def m__law_least_net : List PyData → Rv := runP 6 b__law_least_net
abbrev s__law_sizes : Stmt := topS 8
abbrev N__law_sizes : List Str := ["cell", "way", "rows", "columns", "length", "times", "more", "high", "wide"]
theorem sc__law_sizes : FnScope N__law_sizes ["cell"] (defScope s__law_sizes) := ⟨rfl, rfl, rfl, by decide +kernel, rfl, by decide +kernel, by decide +kernel⟩
def b__law_sizes : Rho → Out :=
  (sCons (sAsg (hTup 6 (hCons (hName 1) (hCons (hName 2) (hCons (hName 3) (hCons (hName 4) (hCons (hName 5) (hCons (hName 6) hNil))))))) (eCall m__law_drawn (lCons (eV 0) (lCons (eLst (lCons (cC (.int 6)) (lCons (cC (.int 60)) (lCons (cC (.int 60)) (lCons (cC (.int 60)) (lCons (cC (.int 6)) (lCons (cC (.int 12)) lNil))))))) lNil))))
    (sCons (sIf (eTest (eBin (gLt) (eV 1) (cC (.int 2)))) (sCons (sRet (eTup (lCons (eBin gAdd (cC (.int 1)) (eMod (eV 2) (cC (.int 12)))) (lCons (eBin gAdd (cC (.int 1)) (eMod (eV 3) (cC (.int 12)))) (lCons (eBin gAdd (cC (.int 1)) (eMod (eV 4) (cC (.int 6)))) lNil)))))
    sNil) sNil)
    (sCons (sIf (eTest (eBin (gEq false) (eV 1) (cC (.int 2)))) (sCons (sRet (eTup (lCons (eBin gAdd (cC (.int 1)) (eV 2)) (lCons (eBin gAdd (cC (.int 1)) (eV 3)) (lCons (eBin gAdd (cC (.int 1)) (eV 4)) lNil)))))
    sNil) sNil)
    (sCons (sSet 4 (eBin gAdd (cC (.int 1)) (eMod (eV 4) (cC (.int 15)))))
    (sCons (sIf (eTest (eBin (gEq false) (eV 1) (cC (.int 3)))) (sCons (sRet (eTup (lCons (eBin gAdd (cC (.int 1)) (eV 2)) (lCons (eBin gAdd (cC (.int 1)) (eV 3)) (lCons (eV 4) lNil)))))
    sNil) sNil)
    (sCons (sSet 7 (eFn (gMax min2 minI) (lCons (cC (.int 60)) (lCons (eBin gAdd (eMul (eV 4) (eBin gAdd (cC (.int 1)) (eMod (eV 5) (cC (.int 3))))) (eMod (eV 2) (eV 4))) lNil))))
    (sCons (sSet 8 (eFn (gMax min2 minI) (lCons (cC (.int 60)) (lCons (eBin gAdd (eMul (eV 4) (eBin gAdd (cC (.int 1)) (eMod (eV 6) (cC (.int 3))))) (eMod (eV 3) (eV 4))) lNil))))
    (sCons (sRet (eTup (lCons (eV 7) (lCons (eBin gSub (eLst (lCons (eV 8) (lCons (eBin gAdd (cC (.int 1)) (eMod (eV 3) (eV 4))) lNil))) (eSub (eV 1) (cC (.int 4)))) (lCons (eV 4) lNil)))))
    sNil))))))))
def m__law_sizes : List PyData → Rv := runP 9 b__law_sizes
abbrev s_law : Stmt := topS 9
abbrev N_law : List Str := ["script", "cell", "rows", "columns", "length", "found"]
theorem sc_law : FnScope N_law ["script"] (defScope s_law) := ⟨rfl, rfl, rfl, by decide +kernel, rfl, by decide +kernel, by decide +kernel⟩
def b_law_1 : Rho → Out :=
  (sCons (sAsg (hTup 3 (hCons (hName 2) (hCons (hName 3) (hCons (hName 4) hNil)))) (eCall m__law_sizes (lCons (eV 1) lNil)))
    (sCons (sSet 5 (eCall m_least_net (lCons (eV 2) (lCons (eV 3) (lCons (eV 4) lNil)))))
    (sCons (sIf (bOr (bNot (eTest (eCall m__law_whole (lCons (eV 5) lNil)))) (eTest (eBin (gEq true) (eV 5) (eCall m__law_least_net (lCons (eV 2) (lCons (eV 3) (lCons (eV 4) lNil))))))) (sCons (sRet (cC (.bool false)))
    sNil) sNil)
    (sCons (sIf (eTest (eBin (gEq true) (eCall m_least_net (lCons (eV 3) (lCons (eV 2) (lCons (eV 4) lNil)))) (eV 5))) (sCons (sRet (cC (.bool false)))
    sNil) sNil)
    (sCons (sIf (bAnd (eTest (eBin (gLt) (eV 2) (cC (.int 60)))) (eTest (eBin (gLt) (eCall m_least_net (lCons (eBin gAdd (eV 2) (cC (.int 1))) (lCons (eV 3) (lCons (eV 4) lNil)))) (eV 5)))) (sCons (sRet (cC (.bool false)))
    sNil) sNil)
    (sCons (sIf (bAnd (eTest (eBin (gLt) (eV 4) (cC (.int 60)))) (eTest (eBin (gGt) (eCall m_least_net (lCons (eV 2) (lCons (eV 3) (lCons (eBin gAdd (eV 4) (cC (.int 1))) lNil)))) (eV 5)))) (sCons (sRet (cC (.bool false)))
    sNil) sNil)
    sNil))))))
def b_law : Rho → Out :=
  (sCons (sFor [1, 2, 3, 4, 5] (iVal (eBin gAdd (eLst (lCons (cC (.int 0)) lNil)) (eSl (eV 0) none (some (cC (.int 40)))))) (hName 1) b_law_1)
    (sCons (sRet (cC (.bool true)))
    sNil))
def m_law : List PyData → Rv := runP 6 b_law
/-- what the top has written -/
structure Top (K : PySem.W.Frag) (mg : Str → Option Value) : Prop where
  d_net_cells : ∃ (f : Addr) (fd : FuncData), FunD K "net_cells" "net_cells" (defArgs s_net_cells) (defBody s_net_cells) (defScope s_net_cells) [] [] f fd ∧ mg "net_cells" = some (.ref f) ∧ Binds K fd ["rows", "columns", "length"] []
  d_least_net : ∃ (f : Addr) (fd : FuncData), FunD K "least_net" "least_net" (defArgs s_least_net) (defBody s_least_net) (defScope s_least_net) [] [] f fd ∧ mg "least_net" = some (.ref f) ∧ Binds K fd ["rows", "columns", "length"] []
  d__law_stir : ∃ (f : Addr) (fd : FuncData), FunD K "_law_stir" "_law_stir" (defArgs s__law_stir) (defBody s__law_stir) (defScope s__law_stir) [] [] f fd ∧ mg "_law_stir" = some (.ref f) ∧ Binds K fd ["cell", "k"] []
  d__law_drawn : ∃ (f : Addr) (fd : FuncData), FunD K "_law_drawn" "_law_drawn" (defArgs s__law_drawn) (defBody s__law_drawn) (defScope s__law_drawn) [] [] f fd ∧ mg "_law_drawn" = some (.ref f) ∧ Binds K fd ["cell", "sizes"] []
  d__law_whole : ∃ (f : Addr) (fd : FuncData), FunD K "_law_whole" "_law_whole" (defArgs s__law_whole) (defBody s__law_whole) (defScope s__law_whole) [] [] f fd ∧ mg "_law_whole" = some (.ref f) ∧ Binds K fd ["thing"] []
  d__law_least_net : ∃ (f : Addr) (fd : FuncData), FunD K "_law_least_net" "_law_least_net" (defArgs s__law_least_net) (defBody s__law_least_net) (defScope s__law_least_net) [] [] f fd ∧ mg "_law_least_net" = some (.ref f) ∧ Binds K fd ["rows", "columns", "length"] []
  d__law_sizes : ∃ (f : Addr) (fd : FuncData), FunD K "_law_sizes" "_law_sizes" (defArgs s__law_sizes) (defBody s__law_sizes) (defScope s__law_sizes) [] [] f fd ∧ mg "_law_sizes" = some (.ref f) ∧ Binds K fd ["cell"] []
  d_law : ∃ (f : Addr) (fd : FuncData), FunD K "law" "law" (defArgs s_law) (defBody s_law) (defScope s_law) [] [] f fd ∧ mg "law" = some (.ref f) ∧ Binds K fd ["script"] []
  n_bool : mg "bool" = none
  n_int : mg "int" = none
  n_isinstance : mg "isinstance" = none
  n_len : mg "len" = none
  n_min : mg "min" = none
  n_range : mg "range" = none
section
variable {P : Program} {w : World} {K : PySem.W.Frag} {mg : Str → Option Value} {base : Heap}
theorem ok_net_cells (D : Top K mg) : FnT P w K mg base "net_cells" 1 3 m_net_cells := by
  obtain ⟨f, fd, F, hm, hb⟩ := D.d_net_cells
  exact fnD_of F sc_net_cells hm hb rfl fun cdv A outer s H E G =>
    (eb_cons (es_if (et_w (ew_and (et_cmp (ec_gt G (ev_var (pv 2)) (ev_var (pv 0)))) (ew_and1 (et_cmp (ec_gt G (ev_var (pv 2)) (ev_var (pv 1))))))) (eb_cons (es_ret (ev_lst el_nil))
    eb_nil) eb_nil)
    (eb_cons (es_setLc (i := 3) G rfl rfl (sw_true rfl rfl rfl (by decide +kernel)) (ei_range1 (by rfl) D.n_range (ev_var (pv 2))) (blkOk_by (N := N_net_cells) (sc := defScope s_net_cells) (own := [("rest", 7)]) (by decide +kernel)) (fun s1 H1 C1 cl1 fp1 => (eg_name (i := 7) (G.blk s1 H1 _ _ fp1).nd rfl (by first | exact .inl rfl | exact .inr rfl))) (fun s1 H1 C1 cl1 fp1 => ets_nil) (fun s1 H1 C1 cl1 fp1 => (ev_lst el_nil)))
    (eb_cons (es_for (is := [4]) [4, 5, 6] G (ei_range1 (by rfl) D.n_range (ev_var (pv 0))) (eg_name (i := 4) G.nd rfl (by first | exact .inl rfl | exact .inr rfl)) (eb_cons (es_for (is := [5]) [5, 6] G (ei_range1 (by rfl) D.n_range (ev_var (pv 1))) (eg_name (i := 5) G.nd rfl (by first | exact .inl rfl | exact .inr rfl)) (eb_cons (es_set (i := 6) G.nd rfl (by first | exact .inl rfl | exact .inr rfl) (ev_add (ev_var (pv 4)) (ev_var (pv 5))))
    (eb_cons (es_if (et_cmp (ec_gt G (ev_var (pv 2)) (ev_var (pv 0)))) (eb_cons (es_set (i := 6) G.nd rfl (by first | exact .inl rfl | exact .inr rfl) (ev_add (ev_var (pv 5)) ev_int))
    eb_nil) eb_nil)
    (eb_cons (es_if (et_cmp (ec_gt G (ev_var (pv 2)) (ev_var (pv 1)))) (eb_cons (es_set (i := 6) G.nd rfl (by first | exact .inl rfl | exact .inr rfl) (ev_add (ev_var (pv 4)) ev_int))
    eb_nil) eb_nil)
    (eb_cons (es_expr (ev_mutS opm_app (by decide) (pe_bm PySem.F.plainAttrs_list PySem.F.slot_list_append PySem.F.type_list_append mt_append (pe_ix (ixAll G) (pv 3) (ev_mod (ev_var (pv 6)) (ev_var (pv 2))) (by intro _ _; rfl)) (el_cons (ev_tup (el_cons (ev_var (pv 4)) (el_cons (ev_var (pv 5)) el_nil))) el_nil))))
    eb_nil)))))
    eb_nil))
    (eb_cons (es_if (et_w (ew_or (et_cmp (ec_gt G (ev_var (pv 2)) (ev_var (pv 0)))) (ew_or1 (et_cmp (ec_gt G (ev_var (pv 2)) (ev_var (pv 1))))))) (eb_cons (es_ret (ev_sub_ix G (ev_var (pv 3)) ev_int))
    eb_nil) eb_nil)
    (eb_cons (es_ret (ev_minLen G (by rfl) D.n_min (by rfl) D.n_len (el_cons (ev_var (pv 3)) el_nil)))
    eb_nil)))))
theorem ok_least_net (D : Top K mg) : FnT P w K mg base "least_net" 2 3 m_least_net := by
  obtain ⟨f, fd, F, hm, hb⟩ := D.d_least_net
  exact fnD_of F sc_least_net hm hb rfl fun cdv A outer s H E G =>
    (eb_cons (es_ret (ev_b (b_len D.n_len) (by rfl) (el_cons (ev_call G (ok_net_cells D) (by decide) (by rfl) (el_cons (ev_var (pv 0)) (el_cons (ev_var (pv 1)) (el_cons (ev_var (pv 2)) el_nil))) (hfl := (ll_cons (ll_cons (ll_cons ll_nil))))) el_nil)))
    eb_nil)
theorem ok__law_stir (D : Top K mg) : FnT P w K mg base "_law_stir" 1 2 m__law_stir := by
  obtain ⟨f, fd, F, hm, hb⟩ := D.d__law_stir
  exact fnD_of F sc__law_stir hm hb rfl fun cdv A outer s H E G =>
    (eb_cons (es_set (i := 2) G.nd rfl (by first | exact .inl rfl | exact .inr rfl) (ev_mul (ev_add (ev_add (ev_mod (ev_var (pv 0)) (ev_pow ev_int ev_int)) (ev_mul ev_int (ev_var (pv 1)))) ev_int) ev_int))
    (eb_cons (es_set (i := 2) G.nd rfl (by first | exact .inl rfl | exact .inr rfl) (ev_mod (ev_var (pv 2)) ev_int))
    (eb_cons (es_ret (ev_fdiv (ev_mod (ev_pow (ev_add (ev_pow (ev_var (pv 2)) ev_int) (ev_mul ev_int (ev_var (pv 1)))) ev_int) ev_int) ev_int))
    eb_nil)))
theorem ok__law_drawn (D : Top K mg) : FnT P w K mg base "_law_drawn" 2 2 m__law_drawn := by
  obtain ⟨f, fd, F, hm, hb⟩ := D.d__law_drawn
  exact fnD_of F sc__law_drawn hm hb rfl fun cdv A outer s H E G =>
    (eb_cons (es_set (i := 2) G.nd rfl (by first | exact .inl rfl | exact .inr rfl) (ev_lst el_nil))
    (eb_cons (es_set (i := 3) G.nd rfl (by first | exact .inl rfl | exact .inr rfl) (ev_var (pv 0)))
    (eb_cons (es_for (is := [4]) [4] G (ei_range1 (by rfl) D.n_range (ev_b (b_len D.n_len) (by rfl) (el_cons (ev_var (pv 1)) el_nil))) (eg_name (i := 4) G.nd rfl (by first | exact .inl rfl | exact .inr rfl)) (eb_cons (es_if (et_w (ew_or (et_cmp (ec_lt G (ev_var (pv 0)) (ev_pow ev_int ev_int))) (ew_or1 (et_cmp (ec_eq G (ev_var (pv 3)) ev_int))))) (eb_cons (es_expr (ev_mt opm_app (by decide) (pe_bm PySem.F.plainAttrs_list PySem.F.slot_list_append PySem.F.type_list_append mt_append (pv 2) (el_cons (ev_mod (ev_call G (ok__law_stir D) (by decide) (by rfl) (el_cons (ev_var (pv 0)) (el_cons (ev_var (pv 4)) el_nil)) (hfl := (ll_cons (ll_cons ll_nil)))) (ev_sub_ix G (ev_var (pv 1)) (ev_var (pv 4)))) el_nil))))
    eb_nil) (eb_cons (es_expr (ev_mt opm_app (by decide) (pe_bm PySem.F.plainAttrs_list PySem.F.slot_list_append PySem.F.type_list_append mt_append (pv 2) (el_cons (ev_mod (ev_var (pv 3)) (ev_sub_ix G (ev_var (pv 1)) (ev_var (pv 4)))) el_nil))))
    (eb_cons (es_set (i := 3) G.nd rfl (by first | exact .inl rfl | exact .inr rfl) (ev_fdiv (ev_var (pv 3)) (ev_sub_ix G (ev_var (pv 1)) (ev_var (pv 4)))))
    eb_nil)))
    eb_nil))
    (eb_cons (es_ret (ev_mv (pv 2)))
    eb_nil))))
theorem ok__law_whole (D : Top K mg) : FnT P w K mg base "_law_whole" 1 1 m__law_whole := by
  obtain ⟨f, fd, F, hm, hb⟩ := D.d__law_whole
  exact fnD_of F sc__law_whole hm hb rfl fun cdv A outer s H E G =>
    (eb_cons (es_ret (ev_and (ev_isi (T := "int") (by rfl) D.n_isinstance (by decide) (pe_bltn (v := .ty "int") (by rfl) D.n_int boot_int rfl) (ev_var (pv 0))) (ev_one (ev_not (ev_isi (T := "bool") (by rfl) D.n_isinstance (by decide) (pe_bltn (v := .ty "bool") (by rfl) D.n_bool boot_bool rfl) (ev_var (pv 0)))))))
    eb_nil)
theorem ok__law_least_net (D : Top K mg) : FnT P w K mg base "_law_least_net" 1 3 m__law_least_net := by
  obtain ⟨f, fd, F, hm, hb⟩ := D.d__law_least_net
  exact fnD_of F sc__law_least_net hm hb rfl fun cdv A outer s H E G =>
    (eb_cons (es_if (et_w (ew_and (et_cmp (ec_gt G (ev_var (pv 2)) (ev_var (pv 0)))) (ew_and1 (et_cmp (ec_gt G (ev_var (pv 2)) (ev_var (pv 1))))))) (eb_cons (es_ret ev_int)
    eb_nil) eb_nil)
    (eb_cons (es_if (et_cmp (ec_gt G (ev_var (pv 2)) (ev_var (pv 0)))) (eb_cons (es_ret (ev_mul (ev_var (pv 0)) (ev_fdiv (ev_var (pv 1)) (ev_var (pv 2)))))
    eb_nil) eb_nil)
    (eb_cons (es_if (et_cmp (ec_gt G (ev_var (pv 2)) (ev_var (pv 1)))) (eb_cons (es_ret (ev_mul (ev_var (pv 1)) (ev_fdiv (ev_var (pv 0)) (ev_var (pv 2)))))
    eb_nil) eb_nil)
    (eb_cons (es_par (i := 3) (j := 4) G G.nd rfl rfl (by decide) rfl rfl (el_cons (ev_mod (ev_var (pv 0)) (ev_var (pv 2))) (el_cons (ev_mod (ev_var (pv 1)) (ev_var (pv 2))) el_nil)))
    (eb_cons (es_set (i := 5) G.nd rfl (by first | exact .inl rfl | exact .inr rfl) (ev_if (et_cmp (ec_le G (ev_add (ev_var (pv 3)) (ev_var (pv 4))) (ev_var (pv 2)))) (ev_mul (ev_var (pv 3)) (ev_var (pv 4))) (ev_mul (ev_sub (ev_var (pv 2)) (ev_var (pv 3))) (ev_sub (ev_var (pv 2)) (ev_var (pv 4))))))
    (eb_cons (es_ret (ev_fdiv (ev_sub (ev_mul (ev_var (pv 0)) (ev_var (pv 1))) (ev_var (pv 5))) (ev_var (pv 2))))
    eb_nil))))))
theorem ok__law_sizes (D : Top K mg) : FnT P w K mg base "_law_sizes" 3 1 m__law_sizes := by
  obtain ⟨f, fd, F, hm, hb⟩ := D.d__law_sizes
  exact fnD_of F sc__law_sizes hm hb rfl fun cdv A outer s H E G =>
    (eb_cons (es_asg (is := [1, 2, 3, 4, 5, 6]) (ev_call G (ok__law_drawn D) (by decide) (by rfl) (el_cons (ev_var (pv 0)) (el_cons (ev_lst (el_cons ev_int (el_cons ev_int (el_cons ev_int (el_cons ev_int (el_cons ev_int (el_cons ev_int el_nil))))))) el_nil)) (hfl := (ll_cons (ll_cons ll_nil)))) (eg_tup G (egs_cons (eg_name (i := 1) G.nd rfl (by first | exact .inl rfl | exact .inr rfl)) (egs_cons (eg_name (i := 2) G.nd rfl (by first | exact .inl rfl | exact .inr rfl)) (egs_cons (eg_name (i := 3) G.nd rfl (by first | exact .inl rfl | exact .inr rfl)) (egs_cons (eg_name (i := 4) G.nd rfl (by first | exact .inl rfl | exact .inr rfl)) (egs_cons (eg_name (i := 5) G.nd rfl (by first | exact .inl rfl | exact .inr rfl)) (egs_cons (eg_name (i := 6) G.nd rfl (by first | exact .inl rfl | exact .inr rfl)) egs_nil))))))))
    (eb_cons (es_if (et_cmp (ec_lt G (ev_var (pv 1)) ev_int)) (eb_cons (es_ret (ev_tup (el_cons (ev_add ev_int (ev_mod (ev_var (pv 2)) ev_int)) (el_cons (ev_add ev_int (ev_mod (ev_var (pv 3)) ev_int)) (el_cons (ev_add ev_int (ev_mod (ev_var (pv 4)) ev_int)) el_nil)))))
    eb_nil) eb_nil)
    (eb_cons (es_if (et_cmp (ec_eq G (ev_var (pv 1)) ev_int)) (eb_cons (es_ret (ev_tup (el_cons (ev_add ev_int (ev_var (pv 2))) (el_cons (ev_add ev_int (ev_var (pv 3))) (el_cons (ev_add ev_int (ev_var (pv 4))) el_nil)))))
    eb_nil) eb_nil)
    (eb_cons (es_set (i := 4) G.nd rfl (by first | exact .inl rfl | exact .inr rfl) (ev_add ev_int (ev_mod (ev_var (pv 4)) ev_int)))
    (eb_cons (es_if (et_cmp (ec_eq G (ev_var (pv 1)) ev_int)) (eb_cons (es_ret (ev_tup (el_cons (ev_add ev_int (ev_var (pv 2))) (el_cons (ev_add ev_int (ev_var (pv 3))) (el_cons (ev_var (pv 4)) el_nil)))))
    eb_nil) eb_nil)
    (eb_cons (es_set (i := 7) G.nd rfl (by first | exact .inl rfl | exact .inr rfl) (ev_b (b_min G.calm D.n_min) (by rfl) (el_cons ev_int (el_cons (ev_add (ev_mul (ev_var (pv 4)) (ev_add ev_int (ev_mod (ev_var (pv 5)) ev_int))) (ev_mod (ev_var (pv 2)) (ev_var (pv 4)))) el_nil))))
    (eb_cons (es_set (i := 8) G.nd rfl (by first | exact .inl rfl | exact .inr rfl) (ev_b (b_min G.calm D.n_min) (by rfl) (el_cons ev_int (el_cons (ev_add (ev_mul (ev_var (pv 4)) (ev_add ev_int (ev_mod (ev_var (pv 6)) ev_int))) (ev_mod (ev_var (pv 3)) (ev_var (pv 4)))) el_nil))))
    (eb_cons (es_ret (ev_tup (el_cons (ev_var (pv 7)) (el_cons (ev_sub_ix G (ev_lst (el_cons (ev_var (pv 8)) (el_cons (ev_add ev_int (ev_mod (ev_var (pv 3)) (ev_var (pv 4)))) el_nil))) (ev_sub (ev_var (pv 1)) ev_int)) (el_cons (ev_var (pv 4)) el_nil)))))
    eb_nil))))))))
theorem ok_law {f : Addr} {fd : FuncData} (D : Top K mg) (F : FunD K "law" "law" (defArgs s_law) (defBody s_law) (defScope s_law) [] [] f fd) : FnOk P w K mg base (L2.CX P w) 4 f fd ["script"] (spP K mg 1 m_law) :=
  fnOk_of F sc_law rfl fun cdv A outer s H E G =>
    (eb_cons (es_for (is := [1]) [1, 2, 3, 4, 5] G (ei_val (ev_add (ev_lst (el_cons ev_int el_nil)) (ev_sl (ev_var (pv 0)) eo_none (eo_some ev_int)))) (eg_name (i := 1) G.nd rfl (by first | exact .inl rfl | exact .inr rfl)) (eb_cons (es_asg (is := [2, 3, 4]) (ev_call G (ok__law_sizes D) (by decide) (by rfl) (el_cons (ev_var (pv 1)) el_nil) (hfl := (ll_cons ll_nil))) (eg_tup G (egs_cons (eg_name (i := 2) G.nd rfl (by first | exact .inl rfl | exact .inr rfl)) (egs_cons (eg_name (i := 3) G.nd rfl (by first | exact .inl rfl | exact .inr rfl)) (egs_cons (eg_name (i := 4) G.nd rfl (by first | exact .inl rfl | exact .inr rfl)) egs_nil)))))
    (eb_cons (es_set (i := 5) G.nd rfl (by first | exact .inl rfl | exact .inr rfl) (ev_call G (ok_least_net D) (by decide) (by rfl) (el_cons (ev_var (pv 2)) (el_cons (ev_var (pv 3)) (el_cons (ev_var (pv 4)) el_nil))) (hfl := (ll_cons (ll_cons (ll_cons ll_nil))))))
    (eb_cons (es_if (et_w (ew_or (et_not (et_val (ev_call G (ok__law_whole D) (by decide) (by rfl) (el_cons (ev_var (pv 5)) el_nil) (hfl := (ll_cons ll_nil))))) (ew_or1 (et_cmp (ec_ne G (ev_var (pv 5)) (ev_call G (ok__law_least_net D) (by decide) (by rfl) (el_cons (ev_var (pv 2)) (el_cons (ev_var (pv 3)) (el_cons (ev_var (pv 4)) el_nil))) (hfl := (ll_cons (ll_cons (ll_cons ll_nil)))))))))) (eb_cons (es_ret ev_bl)
    eb_nil) eb_nil)
    (eb_cons (es_if (et_cmp (ec_ne G (ev_call G (ok_least_net D) (by decide) (by rfl) (el_cons (ev_var (pv 3)) (el_cons (ev_var (pv 2)) (el_cons (ev_var (pv 4)) el_nil))) (hfl := (ll_cons (ll_cons (ll_cons ll_nil))))) (ev_var (pv 5)))) (eb_cons (es_ret ev_bl)
    eb_nil) eb_nil)
    (eb_cons (es_if (et_w (ew_and (et_cmp (ec_lt G (ev_var (pv 2)) ev_int)) (ew_and1 (et_cmp (ec_lt G (ev_call G (ok_least_net D) (by decide) (by rfl) (el_cons (ev_add (ev_var (pv 2)) ev_int) (el_cons (ev_var (pv 3)) (el_cons (ev_var (pv 4)) el_nil))) (hfl := (ll_cons (ll_cons (ll_cons ll_nil))))) (ev_var (pv 5))))))) (eb_cons (es_ret ev_bl)
    eb_nil) eb_nil)
    (eb_cons (es_if (et_w (ew_and (et_cmp (ec_lt G (ev_var (pv 4)) ev_int)) (ew_and1 (et_cmp (ec_gt G (ev_call G (ok_least_net D) (by decide) (by rfl) (el_cons (ev_var (pv 2)) (el_cons (ev_var (pv 3)) (el_cons (ev_add (ev_var (pv 4)) ev_int) el_nil))) (hfl := (ll_cons (ll_cons (ll_cons ll_nil))))) (ev_var (pv 5))))))) (eb_cons (es_ret ev_bl)
    eb_nil) eb_nil)
    eb_nil)))))))
    (eb_cons (es_ret ev_bl)
    eb_nil))
end
def dd_net_cells : He.DefD := ⟨("net_cells", none), "net_cells", "net_cells", defArgs s_net_cells, defBody s_net_cells, defScope s_net_cells, [], []⟩
def dd_least_net : He.DefD := ⟨("least_net", none), "least_net", "least_net", defArgs s_least_net, defBody s_least_net, defScope s_least_net, [], []⟩
def dd__law_stir : He.DefD := ⟨("_law_stir", none), "_law_stir", "_law_stir", defArgs s__law_stir, defBody s__law_stir, defScope s__law_stir, [], []⟩
def dd__law_drawn : He.DefD := ⟨("_law_drawn", none), "_law_drawn", "_law_drawn", defArgs s__law_drawn, defBody s__law_drawn, defScope s__law_drawn, [], []⟩
def dd__law_whole : He.DefD := ⟨("_law_whole", none), "_law_whole", "_law_whole", defArgs s__law_whole, defBody s__law_whole, defScope s__law_whole, [], []⟩
def dd__law_least_net : He.DefD := ⟨("_law_least_net", none), "_law_least_net", "_law_least_net", defArgs s__law_least_net, defBody s__law_least_net, defScope s__law_least_net, [], []⟩
def dd__law_sizes : He.DefD := ⟨("_law_sizes", none), "_law_sizes", "_law_sizes", defArgs s__law_sizes, defBody s__law_sizes, defScope s__law_sizes, [], []⟩
def dd_law : He.DefD := ⟨("law", none), "law", "law", defArgs s_law, defBody s_law, defScope s_law, [], []⟩
def fnL : List He.DefD := [dd_net_cells, dd_least_net, dd__law_stir, dd__law_drawn, dd__law_whole, dd__law_least_net, dd__law_sizes, dd_law]
def faL : List He.Fa := [.glo "net_cells", .glo "least_net", .glo "_law_stir", .glo "_law_drawn", .glo "_law_whole", .glo "_law_least_net", .glo "_law_sizes", .glo "law", .free "bool", .free "int", .free "isinstance", .free "len", .free "min", .free "range"]
def exL (K : PySem.W.Frag) : Bool := true
abbrev RW : PySem.W.OpenRow := PySem.W.OpenLaw.row PySem.Challenge.rw_fleethide_k23_how_many_a_net_has
abbrev hkL : PySem.W.Hook := He.hookX 5 faL fnL [] [] exL
def obL (s : PySem.W.SharedT) : He.AlX := He.obsX 5 faL fnL [] [] exL (HandSHeadRun.getT s)
theorem obL_eq (s : PySem.W.SharedT) : obL s = hkL.obs s.abs := He.obsX_eq (HandSHeadRun.getT_eq s)
def looseL : List Str := (["net_cells", "least_net", "_law_stir", "_law_drawn", "_law_whole", "_law_least_net", "_law_sizes"] : List Str)
theorem runL (w : World) : HandSHeadRun.RunEq RW (PySem.W.view RW.prog [9]) hkL obL 1000 looseL w := by
  intro os
  kernel_rfl
theorem topL {w : World} {K : PySem.W.Frag} {h : Heap} {mg : Str → Option Value} (X : K.In h) (G : h.Ns mainGlobals mg) (c : He.SaysX faL fnL [] [] exL w h K) : Top K mg where
  d_net_cells := by
    obtain ⟨fd, F⟩ := c.t.d.def_ 0 (d := dd_net_cells) rfl
    exact ⟨_, fd, F, He.glo_ok X G (c.t.d.fact 0 (f := .glo "net_cells") rfl), FunD.bindsN F fun _ _ _ _ _ _ us hl => match us, hl with | [_, _, _], _ => rfl⟩
  d_least_net := by
    obtain ⟨fd, F⟩ := c.t.d.def_ 1 (d := dd_least_net) rfl
    exact ⟨_, fd, F, He.glo_ok X G (c.t.d.fact 1 (f := .glo "least_net") rfl), FunD.bindsN F fun _ _ _ _ _ _ us hl => match us, hl with | [_, _, _], _ => rfl⟩
  d__law_stir := by
    obtain ⟨fd, F⟩ := c.t.d.def_ 2 (d := dd__law_stir) rfl
    exact ⟨_, fd, F, He.glo_ok X G (c.t.d.fact 2 (f := .glo "_law_stir") rfl), FunD.bindsN F fun _ _ _ _ _ _ us hl => match us, hl with | [_, _], _ => rfl⟩
  d__law_drawn := by
    obtain ⟨fd, F⟩ := c.t.d.def_ 3 (d := dd__law_drawn) rfl
    exact ⟨_, fd, F, He.glo_ok X G (c.t.d.fact 3 (f := .glo "_law_drawn") rfl), FunD.bindsN F fun _ _ _ _ _ _ us hl => match us, hl with | [_, _], _ => rfl⟩
  d__law_whole := by
    obtain ⟨fd, F⟩ := c.t.d.def_ 4 (d := dd__law_whole) rfl
    exact ⟨_, fd, F, He.glo_ok X G (c.t.d.fact 4 (f := .glo "_law_whole") rfl), FunD.bindsN F fun _ _ _ _ _ _ us hl => match us, hl with | [_], _ => rfl⟩
  d__law_least_net := by
    obtain ⟨fd, F⟩ := c.t.d.def_ 5 (d := dd__law_least_net) rfl
    exact ⟨_, fd, F, He.glo_ok X G (c.t.d.fact 5 (f := .glo "_law_least_net") rfl), FunD.bindsN F fun _ _ _ _ _ _ us hl => match us, hl with | [_, _, _], _ => rfl⟩
  d__law_sizes := by
    obtain ⟨fd, F⟩ := c.t.d.def_ 6 (d := dd__law_sizes) rfl
    exact ⟨_, fd, F, He.glo_ok X G (c.t.d.fact 6 (f := .glo "_law_sizes") rfl), FunD.bindsN F fun _ _ _ _ _ _ us hl => match us, hl with | [_], _ => rfl⟩
  d_law := by
    obtain ⟨fd, F⟩ := c.t.d.def_ 7 (d := dd_law) rfl
    exact ⟨_, fd, F, He.glo_ok X G (c.t.d.fact 7 (f := .glo "law") rfl), FunD.bindsN F fun _ _ _ _ _ _ us hl => match us, hl with | [_], _ => rfl⟩
  n_bool := He.free_ok X G (c.t.d.fact 8 (f := .free "bool") rfl)
  n_int := He.free_ok X G (c.t.d.fact 9 (f := .free "int") rfl)
  n_isinstance := He.free_ok X G (c.t.d.fact 10 (f := .free "isinstance") rfl)
  n_len := He.free_ok X G (c.t.d.fact 11 (f := .free "len") rfl)
  n_min := He.free_ok X G (c.t.d.fact 12 (f := .free "min") rfl)
  n_range := He.free_ok X G (c.t.d.fact 13 (f := .free "range") rfl)

end K23
namespace K23
/-! the plain law: how many cells the least net has -/
theorem sd {L : Nat} (h : 0 < L) (j : Nat) : (j + 1) / L = j / L + (if (j + 1) % L = 0 then 1 else 0) ∧ (j + 1) % L = (if j % L + 1 = L then 0 else j % L + 1) := by
  have e := Nat.div_add_mod j L
  have m := Nat.mod_lt j h
  generalize j / L = q at *
  generalize j % L = r at *
  subst e
  by_cases hr : r + 1 = L
  · have e1 : L * q + r + 1 = L * (q + 1) := by rw [Nat.mul_add, Nat.mul_one]; omega
    rw [e1, Nat.mul_mod_right, Nat.mul_div_cancel_left _ h]
    simp [hr]
  · have e1 : L * q + r + 1 = L * q + (r + 1) := by omega
    rw [e1, Nat.mul_add_div h, Nat.mul_add_mod, Nat.div_eq_of_lt (by omega : r + 1 < L), Nat.mod_eq_of_lt (by omega : r + 1 < L)]
    simp [hr]
theorem sd1 {L : Nat} (h : 0 < L) (j : Nat) : (j + 1) / L = j / L + (if (j + 1) % L = 0 then 1 else 0) := (sd h j).1
theorem sd2 {L : Nat} (h : 0 < L) (j : Nat) : (j + 1) / L = j / L + (if j % L + 1 = L then 1 else 0) := by
  rw [(sd h j).1, (sd h j).2]
  by_cases e : j % L + 1 = L <;> simp [e]
/-- the cells of row r ahead of column j that fall to net k; .. of the rows ahead of i -/
def cI (pl : Nat → Nat → Nat) (L r : Nat) : Nat → Nat → Nat
  | 0, _ => 0
  | j + 1, k => cI pl L r j k + (if pl r j % L = k then 1 else 0)
def cT (pl : Nat → Nat → Nat) (L C : Nat) : Nat → Nat → Nat
  | 0, _ => 0
  | i + 1, k => cT pl L C i k + cI pl L i C k
theorem caseA {L C : Nat} (h : 0 < L) : ∀ R, cT (fun _ c => c + 1) L C R 0 = R * (C / L) := by
  have h1 : ∀ r j, cI (fun _ c => c + 1) L r j 0 = j / L := fun r j => by
    induction j with
    | zero => simp [cI]
    | succ j ih => rw [cI, ih, sd1 h j]
  intro R
  induction R with
  | zero => simp [cT]
  | succ R ih => rw [cT, ih, h1, Nat.succ_mul]
theorem caseB {L C : Nat} (h : 0 < L) : ∀ R, cT (fun r _ => r + 1) L C R 0 = C * (R / L) := by
  have h1 : ∀ r j, cI (fun r _ => r + 1) L r j 0 = if (r + 1) % L = 0 then j else 0 := fun r j => by
    induction j with
    | zero => simp [cI]
    | succ j ih =>
      rw [cI, ih]
      by_cases e : (r + 1) % L = 0 <;> simp [e]
  intro R
  induction R with
  | zero => simp [cT]
  | succ R ih =>
    rw [cT, ih, h1, sd1 h R]
    by_cases e : (R + 1) % L = 0
    · simp [e, Nat.mul_add]
    · simp [e]
def lnF (R C L : Nat) : Nat := R * (C / L) + (R / L) * (C % L) + ((R % L + C % L) - L)
theorem div_add {L : Nat} (h : 0 < L) (r C : Nat) : (r + C) / L = r / L + C / L + (if L ≤ r % L + C % L then 1 else 0) := by
  have e := Nat.div_add_mod r L
  have e2 := Nat.div_add_mod C L
  have m := Nat.mod_lt r h
  have m2 := Nat.mod_lt C h
  generalize r / L = q at *
  generalize r % L = a at *
  generalize C / L = p at *
  generalize C % L = b at *
  subst e e2
  have e3 : L * q + a + (L * p + b) = L * (q + p) + (a + b) := by rw [Nat.mul_add]; omega
  rw [e3, Nat.mul_add_div h]
  by_cases hc : L ≤ a + b
  · rw [if_pos hc]
    have : (a + b) / L = 1 := by
      have : a + b = L * 1 + (a + b - L) := by omega
      rw [this, Nat.mul_add_div h, Nat.div_eq_of_lt (by omega)]
    rw [this]
  · rw [if_neg hc, Nat.div_eq_of_lt (by omega)]
theorem lnF_succ {L : Nat} (h : 0 < L) (n C : Nat) : lnF (n + 1) C L = lnF n C L + C / L + (if L ≤ n % L + C % L then 1 else 0) := by
  unfold lnF
  rw [sd2 h n, (sd h n).2, Nat.succ_mul]
  have m := Nat.mod_lt n h
  have m2 := Nat.mod_lt C h
  generalize n * (C / L) = A
  generalize C / L = p
  generalize n / L = q at *
  generalize n % L = a at *
  generalize C % L = b at *
  by_cases e : a + 1 = L
  · simp only [e, if_true]
    rw [Nat.add_mul]
    by_cases hb : L ≤ a + b
    · rw [if_pos hb]; omega
    · rw [if_neg hb]; omega
  · simp only [e, if_false, Nat.add_zero]
    by_cases hb : L ≤ a + b
    · rw [if_pos hb]; omega
    · rw [if_neg hb]; omega
theorem lnF_step {L : Nat} (h : 0 < L) (n C : Nat) : lnF (n + 1) C L + n / L = lnF n C L + (n + C) / L := by
  rw [lnF_succ h, div_add h]
  omega
theorem hit {L k : Nat} (h : 0 < L) (hk : k < L) (n : Nat) : (n + 1 + (L - 1 - k)) / L = (n + (L - 1 - k)) / L + (if n % L = k then 1 else 0) := by
  have e : n + 1 + (L - 1 - k) = (n + (L - 1 - k)) + 1 := by omega
  rw [e, sd2 h]
  have m := Nat.mod_lt n h
  have e2 : (n + (L - 1 - k)) % L = if n % L ≤ k then n % L + (L - 1 - k) else n % L - k - 1 := by
    rw [← Nat.mod_add_mod n L (L - 1 - k)]
    by_cases c : n % L ≤ k
    · rw [if_pos c, Nat.mod_eq_of_lt (by omega)]
    · rw [if_neg c]
      have : n % L + (L - 1 - k) = (n % L - k - 1) + L := by omega
      rw [this, Nat.add_mod_right, Nat.mod_eq_of_lt (by omega)]
  rw [e2]
  by_cases c : n % L = k
  · rw [if_pos c, if_pos (by omega : n % L ≤ k), if_pos (by omega)]
  · rw [if_neg c]
    by_cases c2 : n % L ≤ k
    · rw [if_pos c2, if_neg (by omega)]
    · rw [if_neg c2, if_neg (by omega)]
theorem cI_eq {L k : Nat} (h : 0 < L) (hk : k < L) (r : Nat) : ∀ j, cI (fun r c => r + c) L r j k + (r + (L - 1 - k)) / L = (r + j + (L - 1 - k)) / L
  | 0 => by simp [cI]
  | j + 1 => by
    have ih := cI_eq h hk r j
    have := hit h hk (r + j)
    rw [cI]
    have e : r + (j + 1) + (L - 1 - k) = r + j + 1 + (L - 1 - k) := by omega
    rw [e, this]
    omega
theorem cT_eq {L k : Nat} (h : 0 < L) (hk : k < L) (C : Nat) : ∀ i, cT (fun r c => r + c) L C i k + lnF (L - 1 - k) C L = lnF (i + (L - 1 - k)) C L
  | 0 => by simp [cT]
  | i + 1 => by
    have ih := cT_eq h hk C i
    have a := cI_eq h hk i C
    have b := lnF_step h (i + (L - 1 - k)) C
    rw [cT]
    have e1 : i + 1 + (L - 1 - k) = i + (L - 1 - k) + 1 := by omega
    have e2 : i + (L - 1 - k) + C = i + C + (L - 1 - k) := by omega
    rw [e1]
    rw [e2] at b
    omega
theorem lnF_zero {C L : Nat} (h : 0 < L) : lnF 0 C L = 0 := by
  unfold lnF
  have := Nat.mod_lt C h
  simp
  omega
theorem lnF_super {L : Nat} (h : 0 < L) (i s C : Nat) (hs : s < L) : lnF i C L + lnF s C L ≤ lnF (i + s) C L := by
  unfold lnF
  have m2 := Nat.mod_lt C h
  have m := Nat.mod_lt i h
  rw [div_add h i s, Nat.div_eq_of_lt hs, Nat.mod_eq_of_lt hs, Nat.add_mul i s]
  have e2 : (i + s) % L = if i % L + s < L then i % L + s else i % L + s - L := by
    rw [← Nat.mod_add_mod i L s]
    by_cases c : i % L + s < L
    · rw [if_pos c, Nat.mod_eq_of_lt c]
    · rw [if_neg c, Nat.mod_eq_sub_mod (by omega), Nat.mod_eq_of_lt (by omega)]
  rw [e2]
  generalize i * (C / L) = A
  generalize s * (C / L) = B
  generalize C % L = b at *
  generalize i % L = a at *
  rw [Nat.add_zero, Nat.zero_mul, Nat.add_mul]
  generalize i / L * b = D
  by_cases c : a + s < L
  · rw [if_pos c, if_neg (by omega)]; omega
  · rw [if_neg c, if_pos (by omega), Nat.one_mul]; omega
/-- the least of all nets -/
theorem caseC {L R C : Nat} (h : 0 < L) : cT (fun r c => r + c) L C R (L - 1) = lnF R C L ∧ ∀ k, k < L → lnF R C L ≤ cT (fun r c => r + c) L C R k := by
  have e := cT_eq h (by omega : L - 1 < L) C R
  have e0 : L - 1 - (L - 1) = 0 := by omega
  rw [e0, lnF_zero h] at e
  refine ⟨by simpa using e, fun k hk => ?_⟩
  have e := cT_eq h hk C R
  have := lnF_super h R (L - 1 - k) C (by omega)
  omega
/-- as it is told -/
def lN (R C L : Nat) : Nat := if R < L then (if C < L then 0 else R * (C / L)) else if C < L then C * (R / L) else lnF R C L
theorem lnF_hole {L : Nat} (h : 0 < L) (R C : Nat) : (R : Int) * C - (if R % L + C % L ≤ L then ((R % L : Nat) : Int) * ((C % L : Nat) : Int) else ((L : Int) - (R % L : Nat)) * ((L : Int) - (C % L : Nat))) = L * (lnF R C L : Nat) := by
  unfold lnF
  have e := Nat.div_add_mod R L
  have e2 := Nat.div_add_mod C L
  have m := Nat.mod_lt R h
  have m2 := Nat.mod_lt C h
  generalize R / L = q at *
  generalize R % L = a at *
  generalize C / L = p at *
  generalize C % L = b at *
  subst e e2
  by_cases c : a + b ≤ L
  · rw [if_pos c]
    have z : a + b - L = 0 := by omega
    rw [z]
    push_cast
    simp only [Int.add_mul, Int.mul_add, Int.mul_comm, Int.mul_left_comm, Int.mul_assoc]
    omega
  · rw [if_neg c]
    have z : ((a + b - L : Nat) : Int) = (a : Int) + b - L := by omega
    push_cast
    rw [z]
    simp only [Int.add_mul, Int.mul_add, Int.sub_mul, Int.mul_sub, Int.mul_comm, Int.mul_left_comm, Int.mul_assoc]
    omega
theorem lnF_comm {L : Nat} (h : 0 < L) (R C : Nat) : lnF R C L = lnF C R L := by
  have a := lnF_hole h R C
  have b := lnF_hole h C R
  have e : (R : Int) * C - (if R % L + C % L ≤ L then ((R % L : Nat) : Int) * ((C % L : Nat) : Int) else ((L : Int) - (R % L : Nat)) * ((L : Int) - (C % L : Nat))) = (C : Int) * R - (if C % L + R % L ≤ L then ((C % L : Nat) : Int) * ((R % L : Nat) : Int) else ((L : Int) - (C % L : Nat)) * ((L : Int) - (R % L : Nat))) := by
    rw [Int.mul_comm (R : Int) C, Int.mul_comm ((R % L : Nat) : Int), Int.mul_comm ((L : Int) - (R % L : Nat)), Nat.add_comm (R % L)]
  rw [e, b] at a
  have := Int.eq_of_mul_eq_mul_left (by omega : (L : Int) ≠ 0) a
  omega
theorem lN_comm {L : Nat} (h : 0 < L) (R C : Nat) : lN R C L = lN C R L := by
  unfold lN
  by_cases a : R < L <;> by_cases b : C < L <;> simp only [a, b, if_true, if_false]
  exact lnF_comm h R C
theorem lN_rows {L : Nat} (h : 0 < L) (R C : Nat) : lN R C L ≤ lN (R + 1) C L := by
  unfold lN
  by_cases a : R + 1 < L
  · rw [if_pos (by omega : R < L), if_pos a]
    by_cases b : C < L
    · simp [b]
    · simp only [b, if_false]; exact Nat.mul_le_mul_right _ (by omega)
  · rw [if_neg a]
    by_cases a0 : R < L
    · have : R + 1 = L := by omega
      rw [if_pos a0]
      by_cases b : C < L
      · simp [b]
      · simp only [b, if_false]
        unfold lnF
        rw [this]
        have := Nat.mul_le_mul_right (C / L) (by omega : R ≤ L)
        generalize L / L * (C % L) = z
        omega
    · rw [if_neg a0]
      by_cases b : C < L
      · simp only [b, if_true]; exact Nat.mul_le_mul_left _ (Nat.div_le_div_right (by omega))
      · simp only [b, if_false]; rw [lnF_succ h]; exact Nat.le_trans (Nat.le_add_right _ _) (Nat.le_add_right _ _)
def allB : Nat → (Nat → Bool) → Bool
  | 0, _ => true
  | n + 1, p => p n && allB n p
theorem allB_at {p : Nat → Bool} : ∀ {n k : Nat}, allB n p = true → k < n → p k = true
  | n + 1, k, h, hk => by
    have h : (p n && allB n p) = true := h
    rw [Bool.and_eq_true] at h
    by_cases e : k = n
    · subst e; exact h.1
    · exact allB_at h.2 (by omega)
theorem k4 : allB 61 (fun R => allB 61 fun C => bif Nat.blt C R then true else allB (R - 1) fun L => Nat.ble (lnF R C (L + 2)) (lnF R C (L + 1))) = true := by decide +kernel
theorem lnF_longer {R C L : Nat} (hL : 0 < L) (hR : L + 1 ≤ R) (hC : R ≤ C) (hm : C ≤ 60) : lnF R C (L + 1) ≤ lnF R C L := by
  have h := allB_at k4 (by omega : R < 61)
  have h := allB_at h (by omega : C < 61)
  have e : Nat.blt C R = false := by
    cases q : Nat.blt C R with
    | false => rfl
    | true =>
      have := Nat.le_of_ble_eq_true q
      omega
  rw [e] at h
  have h : allB (R - 1) (fun L => Nat.ble (lnF R C (L + 2)) (lnF R C (L + 1))) = true := h
  have h := allB_at h (by omega : L - 1 < R - 1)
  have h := Nat.le_of_ble_eq_true h
  have e1 : L - 1 + 2 = L + 1 := by omega
  have e2 : L - 1 + 1 = L := by omega
  rw [e1, e2] at h
  exact h
theorem lN_longer0 {R C L : Nat} (hL : 0 < L) (hR : 0 < R) (hC : R ≤ C) (hm : C ≤ 60) : lN R C (L + 1) ≤ lN R C L := by
  unfold lN
  by_cases a : R < L + 1
  · rw [if_pos a]
    by_cases b : C < L + 1
    · rw [if_pos b]; exact Nat.zero_le _
    · rw [if_neg b]
      have d : R * (C / (L + 1)) ≤ R * (C / L) := Nat.mul_le_mul_left R (Nat.div_le_div_left (by omega) hL)
      by_cases a0 : R < L
      · rw [if_pos a0, if_neg (by omega)]; exact d
      · have e : R = L := by omega
        rw [if_neg a0, if_neg (by omega)]
        refine Nat.le_trans d ?_
        unfold lnF
        omega
  · rw [if_neg a, if_neg (by omega), if_neg (by omega), if_neg (by omega)]
    exact lnF_longer hL (by omega) hC hm
theorem lN_longer {R C L : Nat} (hL : 0 < L) (hR : 0 < R) (hC : 0 < C) (hm : R ≤ 60) (hm2 : C ≤ 60) : lN R C (L + 1) ≤ lN R C L := by
  by_cases h : R ≤ C
  · exact lN_longer0 hL hR h hm2
  · rw [lN_comm (by omega) R C, lN_comm hL R C]
    exact lN_longer0 hL hC (by omega) hm
end K23
namespace K23
open PySem PySem.Spec L2 Ev
open PyProof.Rows hiding St
local macro_rules | `(tactic| decreasing_trivial_pre_omega) => `(tactic| simp only [sCons_eq, seqO_next, seqO_ret, seqO_brk, seqO_cnt, seqO_exc, sNil, sSet, sIf, sRet, sRetN, sExpr, sPass, sBrk, sCnt, sAsg, ofH_some, sPar, bindE_ok, bindE_exc, bindEL_ok, bindL_ok, bindLL_ok, bindB_ok, bindBB_ok, bindEB_ok, bindS_ok, bindS_exc, bindBS_ok, cC, eV, eM, eBin, eUn, ofO_some, gAdd_int, gII_ok, gI_int, gOrd_int, gEq_int, fz_sh, fz_lst, eTest, toB_b, bNot, bAnd, bOr, gNot_b, eAnd_eq, eOr_eq, eIf, lNil, lCons, eTup, eLst, eCall, ofRv_ok, ofRv_exc, eFn, g1, gMax_two, hName, hCons, hNil, hTup, fgt, eMut, ofM, mApp_ok, ownT_lst, dLen_list, dLen_tup, gSub_list, gSub_tup, gSub_lst, atI_l0, atI_l1, atI_l2, atI_l3, atI_l4, atI_l5, atI_l6, Option.map_some, runP_eq, finP_ret, finP_next, finP_exc, List.getElem?_cons_zero, List.getElem?_cons_succ, List.set_cons_zero, List.set_cons_succ, List.map_cons, List.map_nil, List.replicate, List.cons_append, List.nil_append, if_true, if_false, Bool.false_eq_true, decide_true, Bool.false_xor, Bool.true_xor, decide_eq_true_eq, List.length_cons, List.length_nil, Nat.reduceAdd, Nat.reduceSub, Nat.reduceMul, Int.reduceLT, Int.reduceEq, Int.reduceSub, Int.reduceAdd, Int.reduceNeg, Int.reduceLE, Int.reduceToNat, sz_le, sz_lt, Nat.reduceLeDiff, Nat.reduceLT, Bool.not_true, Bool.not_false, Bool.true_and, Bool.and_true, Bool.false_or, Bool.or_false])
local macro_rules | `(tactic| get_elem_tactic_trivial) => `(tactic| simp only [sCons_eq, seqO_next, seqO_ret, seqO_brk, seqO_cnt, seqO_exc, sNil, sSet, sIf, sRet, sRetN, sExpr, sPass, sBrk, sCnt, sAsg, ofH_some, sPar, bindE_ok, bindE_exc, bindEL_ok, bindL_ok, bindLL_ok, bindB_ok, bindBB_ok, bindEB_ok, bindS_ok, bindS_exc, bindBS_ok, cC, eV, eM, eBin, eUn, ofO_some, gAdd_int, gII_ok, gI_int, gOrd_int, gEq_int, fz_sh, fz_lst, eTest, toB_b, bNot, bAnd, bOr, gNot_b, eAnd_eq, eOr_eq, eIf, lNil, lCons, eTup, eLst, eCall, ofRv_ok, ofRv_exc, eFn, g1, gMax_two, hName, hCons, hNil, hTup, fgt, eMut, ofM, mApp_ok, ownT_lst, dLen_list, dLen_tup, gSub_list, gSub_tup, gSub_lst, atI_l0, atI_l1, atI_l2, atI_l3, atI_l4, atI_l5, atI_l6, Option.map_some, runP_eq, finP_ret, finP_next, finP_exc, List.getElem?_cons_zero, List.getElem?_cons_succ, List.set_cons_zero, List.set_cons_succ, List.map_cons, List.map_nil, List.replicate, List.cons_append, List.nil_append, if_true, if_false, Bool.false_eq_true, decide_true, Bool.false_xor, Bool.true_xor, decide_eq_true_eq, List.length_cons, List.length_nil, Nat.reduceAdd, Nat.reduceSub, Nat.reduceMul, Int.reduceLT, Int.reduceEq, Int.reduceSub, Int.reduceAdd, Int.reduceNeg, Int.reduceLE, Int.reduceToNat, sz_le, sz_lt, Nat.reduceLeDiff, Nat.reduceLT, Bool.not_true, Bool.not_false, Bool.true_and, Bool.and_true, Bool.false_or, Bool.or_false, *])
abbrev oi (n : Nat) : OV := .sh (.int (n : Int))
abbrev sI (n : Nat) : Option OV := some (.sh (.int (n : Int)))
abbrev netO (N : List (List PyData)) : OV := .lst (N.map fun l => .lst (l.map .sh))
/-- where a cell falls -/
def plR (R C L : Nat) (r c : Nat) : Nat := if C < L then r + 1 else if R < L then c + 1 else r + c
def St0 (R C L : Nat) (N : List (List PyData)) (a b c : Option OV) : Rho := [sI R, sI C, sI L, some (netO N), a, b, c, none]
/-- the nets as they stand: cnt k cells in net k -/
def Has (L : Nat) (N : List (List PyData)) (cnt : Nat → Nat) : Prop := N.length = L ∧ ∀ k l, N[k]? = some l → l.length = cnt k
theorem put_cell {R C L r j p : Nat} {N : List (List PyData)} {cnt : Nat → Nat} (hL : 0 < L) (h : Has L N cnt) (hc : ∀ k, cnt k ≤ 10000) :
    ∃ N', eMutS 3 "list" mApp (eMod (eV 6) (eV 2)) (lCons (eTup (lCons (eV 4) (lCons (eV 5) lNil))) lNil) [sI R, sI C, sI L, some (netO N), sI r, sI j, sI p, none] = .ok (.sh .none) [sI R, sI C, sI L, some (netO N'), sI r, sI j, sI p, none] ∧ Has L N' fun k => cnt k + if p % L = k then 1 else 0 := by
  obtain ⟨hN, hl⟩ := h
  have hp : p % L < N.length := by rw [hN]; exact Nat.mod_lt _ hL
  generalize hq : p % L = q at hp
  have g0 : N[q]? = some N[q] := List.getElem?_eq_getElem hp
  generalize N[q] = l0 at g0
  refine ⟨N.set q (l0 ++ [.tuple [.int r, .int j]]), ?_, by rw [List.length_set]; exact hN, fun k l hk => ?_⟩
  · have hlen : (l0.map OV.sh).length < sizeLine := by
      rw [List.length_map, hl _ _ g0, sizeLine_eq]
      have := hc q
      omega
    have := eMutS_ok (i := 3) (n := q) (ρ := [sI R, sI C, sI L, some (netO N), sI r, sI j, sI p, none]) (fk := eMod (eV 6) (eV 2)) (fl := lCons (eTup (lCons (eV 4) (lCons (eV 5) lNil))) lNil) (g := mApp) (xs := N.map fun l => .lst (l.map .sh)) (ys := l0.map .sh) (j := (q : Nat)) (os := [.sh (.tuple [.int r, .int j])]) (o' := .lst (l0.map .sh ++ [.sh (.tuple [.int r, .int j])])) (res := .sh .none) rfl (by
        have : (0 : Int) < (L : Nat) := by omega
        get_elem_tactic_trivial
        rw [← hq, Int.natCast_emod]) (ixN_of (by rw [List.length_map]; exact hp)) (by rw [List.getElem?_map, g0]; rfl) (by decreasing_trivial_pre_omega) (mApp_ok hlen)
    rw [this]
    simp only [List.set_cons_succ, List.set_cons_zero, netO, List.map_set, List.map_append, List.map_cons, List.map_nil]
  · by_cases e : q = k
    · subst e
      rw [List.getElem?_set_self hp] at hk
      cases hk
      simp [hl _ _ g0]
    · rw [List.getElem?_set_ne e] at hk
      simp [hl _ _ hk, e]
theorem inner_step {R C L r j : Nat} {N : List (List PyData)} {cnt : Nat → Nat} (hL : 0 < L) (h : Has L N cnt) (hc : ∀ k, cnt k ≤ 10000) :
    ∃ N' p, b_net_cells_1 [sI R, sI C, sI L, some (netO N), sI r, sI j, none, none] = .next [sI R, sI C, sI L, some (netO N'), sI r, sI j, p, none] ∧ Has L N' fun k => cnt k + if plR R C L r j % L = k then 1 else 0 := by
  obtain ⟨N', key, hN⟩ := put_cell (R := R) (C := C) (r := r) (j := j) (p := plR R C L r j) hL h hc
  refine ⟨N', sI (plR R C L r j), ?_, hN⟩
  have c1 : ((R : Nat) : Int) < (L : Nat) ↔ R < L := by omega
  have c2 : ((C : Nat) : Int) < (L : Nat) ↔ C < L := by omega
  have ep1 : (r : Int) + 1 = ((r + 1 : Nat) : Int) := by omega
  have ep2 : (j : Int) + 1 = ((j + 1 : Nat) : Int) := by omega
  have ep3 : (r : Int) + j = ((r + j : Nat) : Int) := by omega
  unfold b_net_cells_1
  by_cases b : C < L
  · have ep : plR R C L r j = r + 1 := by simp [plR, b]
    rw [ep] at key ⊢
    by_cases a : R < L <;> get_elem_tactic_trivial
  · by_cases a : R < L
    · have ep : plR R C L r j = j + 1 := by simp [plR, b, a]
      rw [ep] at key ⊢
      get_elem_tactic_trivial
    · have ep : plR R C L r j = r + j := by simp [plR, b, a]
      rw [ep] at key ⊢
      get_elem_tactic_trivial
theorem cI_le (pl : Nat → Nat → Nat) (L r k : Nat) : ∀ j, cI pl L r j k ≤ j
  | 0 => Nat.le_refl _
  | j + 1 => by
    have := cI_le pl L r k j
    rw [cI]
    by_cases e : pl r j % L = k <;> simp only [e, if_true, if_false] <;> omega
theorem cT_le (pl : Nat → Nat → Nat) (L C k : Nat) : ∀ i, cT pl L C i k ≤ i * C
  | 0 => by simp [cT]
  | i + 1 => by
    have := cT_le pl L C k i
    have := cI_le pl L i k C
    rw [cT, Nat.succ_mul]
    omega
theorem inner_loop {R C L r : Nat} {N : List (List PyData)} {cnt : Nat → Nat} (hL : 0 < L) (hC : C ≤ 61) (h : Has L N cnt) (hc : ∀ k, cnt k ≤ 9000) :
    ∃ N', forL [5, 6] (hName 5) b_net_cells_1 (upto 0 C) [sI R, sI C, sI L, some (netO N), sI r, none, none, none] = .next [sI R, sI C, sI L, some (netO N'), sI r, none, none, none] ∧ Has L N' fun k => cnt k + cI (plR R C L) L r C k := by
  obtain ⟨ρ', h1, N', h2, h3⟩ := forL_run (fs := [5, 6]) (h := hName 5) (body := b_net_cells_1) (fun i ρ => ∃ N', ρ = [sI R, sI C, sI L, some (netO N'), sI r, none, none, none] ∧ Has L N' fun k => cnt k + cI (plR R C L) L r i k) (upto 0 C) 0
    [sI R, sI C, sI L, some (netO N), sI r, none, none, none] ⟨N, rfl, by simpa [cI] using h⟩ (fun k d ρ hk hp => by
      obtain ⟨N1, rfl, hN⟩ := hp
      obtain ⟨hk1, rfl⟩ := upto_get hk
      obtain ⟨N2, p, e, hN2⟩ := inner_step (R := R) (C := C) (r := r) (j := k) hL hN (fun k' => by
        have := hc k'
        have := cI_le (plR R C L) L r k' (0 + k)
        omega)
      refine ⟨_, [sI R, sI C, sI L, some (netO N2), sI r, sI k, p, none], rfl, .inl ?_, N2, rfl, ?_⟩
      · rw [← e, Int.zero_add]; rfl
      · have e0 : 0 + k = k := by omega
        rw [e0] at hN2 ⊢
        refine ⟨hN2.1, fun k' l hl => ?_⟩
        have := hN2.2 k' l hl
        rw [this]
        show cnt k' + cI (plR R C L) L r k k' + (if plR R C L r k % L = k' then 1 else 0) = cnt k' + (cI (plR R C L) L r k k' + (if plR R C L r k % L = k' then 1 else 0))
        omega)
  rw [upto_len, Nat.zero_add] at h3
  exact ⟨N', by rw [h1, h2], h3⟩
theorem outer_loop {R C L : Nat} {N : List (List PyData)} (hL : 0 < L) (hR : R ≤ 61) (hC : C ≤ 61) (h : Has L N fun _ => 0) :
    ∃ N', forL [4, 5, 6] (hName 4) b_net_cells_2 (upto 0 R) [sI R, sI C, sI L, some (netO N), none, none, none, none] = .next [sI R, sI C, sI L, some (netO N'), none, none, none, none] ∧ Has L N' fun k => cT (plR R C L) L C R k := by
  obtain ⟨ρ', h1, N', h2, h3⟩ := forL_run (fs := [4, 5, 6]) (h := hName 4) (body := b_net_cells_2) (fun i ρ => ∃ N', ρ = [sI R, sI C, sI L, some (netO N'), none, none, none, none] ∧ Has L N' fun k => cT (plR R C L) L C i k) (upto 0 R) 0
    [sI R, sI C, sI L, some (netO N), none, none, none, none] ⟨N, rfl, h⟩ (fun k d ρ hk hp => by
      obtain ⟨N1, rfl, hN⟩ := hp
      obtain ⟨hk1, rfl⟩ := upto_get hk
      obtain ⟨N2, e, hN2⟩ := inner_loop (R := R) (C := C) (r := k) hL hC hN (fun k' => by
        have := cT_le (plR R C L) L C k' (0 + k)
        have : (0 + k) * C ≤ 61 * 61 := Nat.mul_le_mul (by omega) hC
        omega)
      have rg : rngOk (C : Nat) = true := rngOk_of (by omega) (by omega)
      refine ⟨_, [sI R, sI C, sI L, some (netO N2), sI k, none, none, none], rfl, .inl ?_, N2, rfl, ?_⟩
      · unfold b_net_cells_2
        rw [Int.zero_add]
        show sCons _ sNil [sI R, sI C, sI L, some (netO N1), sI k, none, none, none] = _
        rw [sCons_eq, sFor_ok (iRange1_ok (ρ1 := [sI R, sI C, sI L, some (netO N1), sI k, none, none, none]) (j := (C : Nat)) (by decreasing_trivial_pre_omega) rg), Int.toNat_natCast]
        decreasing_trivial_pre_omega
        rw [e]
        decreasing_trivial_pre_omega
      · have e0 : 0 + k = k := by omega
        rw [e0] at hN2 ⊢
        exact hN2)
  rw [upto_len, Nat.zero_add] at h3
  exact ⟨N', by rw [h1, h2], h3⟩
theorem lens_of {L : Nat} {N : List (List PyData)} {cnt : Nat → Nat} (h : Has L N cnt) : lensOf (N.map PyData.list) = some ((List.range L).map cnt) := by
  obtain ⟨hN, hl⟩ := h
  have : ∀ (M : List (List PyData)), lensOf (M.map PyData.list) = some (M.map List.length) := fun M => by
    induction M with
    | nil => rfl
    | cons x M ih => simp only [List.map_cons, lensOf, ih, Option.map_some]
  rw [this]
  congr 1
  apply List.ext_getElem?
  intro i
  rw [List.getElem?_map, List.getElem?_map]
  by_cases hi : i < N.length
  · rw [List.getElem?_eq_getElem hi, List.getElem?_range (by omega)]
    simp only [Option.map_some]
    rw [hl i _ (List.getElem?_eq_getElem hi)]
  · rw [List.getElem?_eq_none (by omega), List.getElem?_eq_none (by simp; omega)]
    rfl
theorem minAt_spec {L : Nat} (hL : 0 < L) (cnt : Nat → Nat) : minAt ((List.range L).map cnt) < L ∧ ∀ k, k < L → cnt (minAt ((List.range L).map cnt)) ≤ cnt k := by
  obtain ⟨h1, h2⟩ := argBest_lt (fun i => ((((List.range L).map cnt).getD i 0 : Nat) : Int)) (L - 1)
  have e : ∀ i, i < L → ((List.range L).map cnt).getD i 0 = cnt i := fun i hi => by
    rw [List.getD_eq_getElem?_getD, List.getElem?_map, List.getElem?_range hi]
    rfl
  have hm : minAt ((List.range L).map cnt) = argBest (fun i j => decide ((((List.range L).map cnt).getD i 0 : Int) < (((List.range L).map cnt).getD j 0 : Nat))) (L - 1) := by
    unfold minAt
    rw [List.length_map, List.length_range]
  rw [hm]
  refine ⟨by omega, fun k hk => ?_⟩
  have := h2 k (by omega)
  rw [e k hk, e _ (by omega)] at this
  omega
/-- the cells of the least net -/
theorem net_cells_ok {R C L : Nat} (hL : 0 < L) (hm : R ≤ 61 ∧ C ≤ 61 ∧ L ≤ 61) : ∃ o n, m_net_cells [.int R, .int C, .int L] = .ok o ∧ (∃ ds, fz o = .list ds ∧ ds.length = n) ∧ n = lN R C L := by
  have c1 : ((R : Nat) : Int) < (L : Nat) ↔ R < L := by omega
  have c2 : ((C : Nat) : Int) < (L : Nat) ↔ C < L := by omega
  have rgR : rngOk (R : Nat) = true := rngOk_of (by omega) (by omega)
  have rgL : rngOk (L : Nat) = true := rngOk_of (by omega) (by omega)
  by_cases ab : R < L ∧ C < L
  · refine ⟨.lst [], 0, ?_, ⟨[], by rw [fz_lst]; rfl, rfl⟩, by simp [lN, ab.1, ab.2]⟩
    obtain ⟨a, b⟩ := ab
    unfold m_net_cells b_net_cells
    get_elem_tactic_trivial
  · have hcomp : eLc [7] (iRange1 (eV 2)) (hName 7) tYesR (eLst lNil) [sI R, sI C, sI L, none, none, none, none, none] = .ok (netO (List.replicate L [])) [sI R, sI C, sI L, none, none, none, none, none] := by
      have c := compL_map (vs := [7]) (h := hName 7) (te := eLst lNil) (ρ := [sI R, sI C, sI L, none, none, none, none, none]) (fun _ => OV.lst []) (upto 0 L) 0 (by rw [upto_len, sizeLine_eq]; omega) (fun d hd => ⟨_, [sI R, sI C, sI L, none, none, none, none, some (.sh d)], rfl, by decreasing_trivial_pre_omega, rfl⟩)
      have q := iRange1_ok (f := eV 2) (ρ := [sI R, sI C, sI L, none, none, none, none, none]) (ρ1 := [sI R, sI C, sI L, none, none, none, none, none]) (j := (L : Nat)) (by decreasing_trivial_pre_omega) rgL
      rw [Int.toNat_natCast] at q
      rw [eLc_ok q c]
      have e : (upto 0 L).map (fun _ => OV.lst []) = List.replicate L (OV.lst []) := by
        rw [List.map_const', upto_len]
      rw [e]
      simp only [netO, List.map_replicate, List.map_nil]
      rfl
    obtain ⟨N, hloop, hN⟩ := outer_loop (R := R) (C := C) hL hm.1 hm.2.1 (N := List.replicate L []) ⟨by simp, fun k l hk => by
      have := List.mem_of_getElem? hk
      rw [List.mem_replicate] at this
      rw [this.2]; rfl⟩
    have hq := iRange1_ok (f := eV 0) (ρ := [sI R, sI C, sI L, some (netO (List.replicate L [])), none, none, none, none]) (ρ1 := [sI R, sI C, sI L, some (netO (List.replicate L [])), none, none, none, none]) (j := (R : Nat)) (by decreasing_trivial_pre_omega) rgR
    rw [Int.toNat_natCast] at hq
    have hfor : sFor [4, 5, 6] (iRange1 (eV 0)) (hName 4) b_net_cells_2 [sI R, sI C, sI L, some (netO (List.replicate L [])), none, none, none, none] = .next [sI R, sI C, sI L, some (netO N), none, none, none, none] := by
      rw [sFor_ok hq]
      simp only [fgt, List.set_cons_succ, List.set_cons_zero]
      rw [hloop]
    have mz : (N.map fun l => OV.lst (l.map .sh)).map fz = N.map PyData.list := by
      rw [List.map_map]
      refine List.map_congr_left fun l _ => ?_
      show fz (.lst (l.map .sh)) = _
      rw [fz_lst, map_sh_fz]
    have fzn : fz (netO N) = .list (N.map PyData.list) := by
      rw [netO, fz_lst, mz]
    by_cases one : R < L ∨ C < L
    · have h0 : 0 < N.length := by rw [hN.1]; exact hL
      have g0 : N[0]? = some N[0] := List.getElem?_eq_getElem h0
      refine ⟨.sh (.list N[0]), _, ?_, ⟨N[0], by rw [fz_sh], rfl⟩, ?_⟩
      · have at0 : atI (N.map PyData.list) 0 = some (.list N[0]) := atI_nat (j := 0) (by rw [List.getElem?_map, g0]; rfl)
        have gs : gSub (netO N) (.sh (.int 0)) = some (.sh (.list N[0])) := by rw [gSub_lst, mz, at0]; rfl
        have gs2 : gSub (.sh (fz (netO N))) (.sh (.int 0)) = some (.sh (.list N[0])) := by rw [fzn, gSub_list, at0]; rfl
        unfold m_net_cells b_net_cells
        by_cases a : R < L
        · have b : ¬ C < L := fun b => ab ⟨a, b⟩
          get_elem_tactic_trivial
        · have b : C < L := one.resolve_left a
          get_elem_tactic_trivial
      · rw [hN.2 0 _ g0]
        by_cases b : C < L
        · have : plR R C L = fun r _ => r + 1 := by funext r c; simp [plR, b]
          show cT (plR R C L) L C R 0 = _
          rw [this, caseB hL]
          have a : ¬ R < L := fun a => ab ⟨a, b⟩
          simp [lN, a, b]
        · have a : R < L := one.resolve_right b
          have : plR R C L = fun _ c => c + 1 := by funext r c; simp [plR, a, b]
          show cT (plR R C L) L C R 0 = _
          rw [this, caseA hL]
          simp [lN, a, b]
    · have a : ¬ R < L := fun a => one (.inl a)
      have b : ¬ C < L := fun b => one (.inr b)
      have ep : plR R C L = fun r c => r + c := by funext r c; simp [plR, a, b]
      rw [ep] at hN
      obtain ⟨m1, m2⟩ := minAt_spec hL (cT (fun r c => r + c) L C R)
      have ml : minAt ((List.range L).map (cT (fun r c => r + c) L C R)) < N.length := by rw [hN.1]; exact m1
      have g0 := List.getElem?_eq_getElem ml
      refine ⟨.sh (.list N[minAt ((List.range L).map (cT (fun r c => r + c) L C R))]), _, ?_, ⟨_, by rw [fz_sh], rfl⟩, ?_⟩
      · have gm : g1 dMinLen [.sh (fz (netO N))] = some (.sh (.list N[minAt ((List.range L).map (cT (fun r c => r + c) L C R))])) := by
          have e1 : (N.map PyData.list)[minAt ((List.range L).map (cT (fun r c => r + c) L C R))]? = some (.list N[minAt ((List.range L).map (cT (fun r c => r + c) L C R))]) := by
            rw [List.getElem?_map, g0]; rfl
          have e2 : 0 < (N.map PyData.list).length := by rw [List.length_map, hN.1]; exact hL
          simp only [g1, fz_sh, fzn, dMinLen, lens_of hN, e2, if_true, e1, Option.map_some]
        simp only [g1, fz_sh, fzn] at gm
        unfold m_net_cells b_net_cells
        get_elem_tactic_trivial
      · rw [hN.2 _ _ g0]
        obtain ⟨q1, q2⟩ := caseC (R := R) (C := C) hL
        have u1 := m2 (L - 1) (by omega)
        have u2 := q2 _ m1
        simp only [lN, a, b, if_false]
        omega
end K23
namespace K23
open PySem PySem.Spec L2 Ev
open PyProof.Rows hiding St
local macro_rules | `(tactic| decreasing_trivial_pre_omega) => `(tactic| simp only [sCons_eq, seqO_next, seqO_ret, seqO_brk, seqO_cnt, seqO_exc, sNil, sSet, sIf, sRet, sRetN, sExpr, sPass, sBrk, sCnt, sAsg, ofH_some, sPar, bindE_ok, bindE_exc, bindEL_ok, bindL_ok, bindLL_ok, bindB_ok, bindBB_ok, bindEB_ok, bindS_ok, bindS_exc, bindBS_ok, cC, eV, eM, eBin, eUn, ofO_some, gAdd_int, gII_ok, gI_int, gOrd_int, gEq_int, fz_sh, fz_lst, eTest, toB_b, bNot, bAnd, bOr, gNot_b, eAnd_eq, eOr_eq, eIf, lNil, lCons, eTup, eLst, eCall, ofRv_ok, ofRv_exc, eFn, g1, gMax_two, hName, hCons, hNil, hTup, fgt, eMut, ofM, mApp_ok, ownT_lst, dLen_list, dLen_tup, gSub_list, gSub_tup, gSub_lst, atI_l0, atI_l1, atI_l2, atI_l3, atI_l4, atI_l5, atI_l6, Option.map_some, runP_eq, finP_ret, finP_next, finP_exc, List.getElem?_cons_zero, List.getElem?_cons_succ, List.set_cons_zero, List.set_cons_succ, List.map_cons, List.map_nil, List.replicate, List.cons_append, List.nil_append, if_true, if_false, Bool.false_eq_true, decide_true, Bool.false_xor, Bool.true_xor, decide_eq_true_eq, List.length_cons, List.length_nil, Nat.reduceAdd, Nat.reduceSub, Nat.reduceMul, Int.reduceLT, Int.reduceEq, Int.reduceSub, Int.reduceAdd, Int.reduceNeg, Int.reduceLE, Int.reduceToNat, sz_le, sz_lt, Nat.reduceLeDiff, Nat.reduceLT, Bool.not_true, Bool.not_false, Bool.true_and, Bool.and_true, Bool.false_or, Bool.or_false])
local macro_rules | `(tactic| get_elem_tactic_trivial) => `(tactic| simp only [sCons_eq, seqO_next, seqO_ret, seqO_brk, seqO_cnt, seqO_exc, sNil, sSet, sIf, sRet, sRetN, sExpr, sPass, sBrk, sCnt, sAsg, ofH_some, sPar, bindE_ok, bindE_exc, bindEL_ok, bindL_ok, bindLL_ok, bindB_ok, bindBB_ok, bindEB_ok, bindS_ok, bindS_exc, bindBS_ok, cC, eV, eM, eBin, eUn, ofO_some, gAdd_int, gII_ok, gI_int, gOrd_int, gEq_int, fz_sh, fz_lst, eTest, toB_b, bNot, bAnd, bOr, gNot_b, eAnd_eq, eOr_eq, eIf, lNil, lCons, eTup, eLst, eCall, ofRv_ok, ofRv_exc, eFn, g1, gMax_two, hName, hCons, hNil, hTup, fgt, eMut, ofM, mApp_ok, ownT_lst, dLen_list, dLen_tup, gSub_list, gSub_tup, gSub_lst, atI_l0, atI_l1, atI_l2, atI_l3, atI_l4, atI_l5, atI_l6, Option.map_some, runP_eq, finP_ret, finP_next, finP_exc, List.getElem?_cons_zero, List.getElem?_cons_succ, List.set_cons_zero, List.set_cons_succ, List.map_cons, List.map_nil, List.replicate, List.cons_append, List.nil_append, if_true, if_false, Bool.false_eq_true, decide_true, Bool.false_xor, Bool.true_xor, decide_eq_true_eq, List.length_cons, List.length_nil, Nat.reduceAdd, Nat.reduceSub, Nat.reduceMul, Int.reduceLT, Int.reduceEq, Int.reduceSub, Int.reduceAdd, Int.reduceNeg, Int.reduceLE, Int.reduceToNat, sz_le, sz_lt, Nat.reduceLeDiff, Nat.reduceLT, Bool.not_true, Bool.not_false, Bool.true_and, Bool.and_true, Bool.false_or, Bool.or_false, *])
theorem least_net_ok {R C L : Nat} (hL : 0 < L) (hm : R ≤ 61 ∧ C ≤ 61 ∧ L ≤ 61) : m_least_net [.int R, .int C, .int L] = .ok (.sh (.int (lN R C L))) := by
  obtain ⟨o, n, h1, ⟨ds, h2, h3⟩, h4⟩ := net_cells_ok hL hm
  have h5 : dLen (fz o) = some (.sh (.int (lN R C L))) := by rw [h2, dLen_list, h3, h4]
  unfold m_least_net b_least_net
  decreasing_trivial_pre_omega
  rw [h1]
  decreasing_trivial_pre_omega
  rw [h5]
  decreasing_trivial_pre_omega
theorem whole_ok {i : Int} : m__law_whole [.int i] = .ok (.sh (.bool true)) := by
  have a : gIsi "int" [.sh (.int i)] = some (.sh (.bool true)) := by simp only [gIsi, fz, isDict, isiB]; rfl
  have b : gIsi "bool" [.sh (.int i)] = some (.sh (.bool false)) := by simp only [gIsi, fz, isDict, isiB]; rfl
  unfold m__law_whole b__law_whole
  get_elem_tactic_trivial
theorem law_least_ok {R C L : Nat} (hL : 0 < L) (hm : R ≤ 61 ∧ C ≤ 61 ∧ L ≤ 61) : m__law_least_net [.int R, .int C, .int L] = .ok (.sh (.int (lN R C L))) := by
  have c1 : ((R : Nat) : Int) < (L : Nat) ↔ R < L := by omega
  have c2 : ((C : Nat) : Int) < (L : Nat) ↔ C < L := by omega
  have p : (0 : Int) < (L : Nat) := by omega
  have sm : ∀ (a : Nat) (b : Int), a ≤ 61 → mulOk (a : Int) b = true := fun a b h => mulOk_l ⟨by omega, by omega⟩
  have dv : ∀ a : Int, divOk a (L : Nat) = true := fun a => divOk_n (n := 10) p (by omega) (by decide) (by decide)
  have m1 := Nat.mod_lt R hL
  have m2 := Nat.mod_lt C hL
  have s1 := sm R ((C / L : Nat) : Int) hm.1
  have s2 := sm C ((R / L : Nat) : Int) hm.2.1
  have s3 := sm R (C : Nat) hm.1
  have s4 := sm (R % L) ((C % L : Nat) : Int) (by omega)
  have s5 := sm (L - R % L) (((L - C % L : Nat)) : Int) (by omega)
  have e1 : ((L - R % L : Nat) : Int) = (L : Int) - (R : Int) % (L : Int) := by omega
  have e2 : ((L - C % L : Nat) : Int) = (L : Int) - (C : Int) % (L : Int) := by omega
  rw [e1, e2] at s5
  rw [Int.natCast_ediv] at s1 s2
  rw [Int.natCast_emod, Int.natCast_emod] at s4
  unfold m__law_least_net b__law_least_net
  by_cases a : R < L
  · by_cases b : C < L
    · have e : lN R C L = 0 := by simp [lN, a, b]
      rw [e]
      get_elem_tactic_trivial
      rfl
    · have e : lN R C L = R * (C / L) := by simp [lN, a, b]
      rw [e]
      have d := dv (C : Nat)
      get_elem_tactic_trivial
      rw [Int.natCast_mul, Int.natCast_ediv]
  · by_cases b : C < L
    · have e : lN R C L = C * (R / L) := by simp [lN, a, b]
      rw [e]
      have d := dv (R : Nat)
      get_elem_tactic_trivial
      rw [Int.natCast_mul, Int.natCast_ediv]
    · have e : lN R C L = lnF R C L := by simp [lN, a, b]
      have h := lnF_hole hL R C
      rw [e]
      by_cases c : R % L + C % L ≤ L
      · have c' : (R : Int) % (L : Int) + (C : Int) % (L : Int) ≤ (L : Int) := by omega
        have d := dv ((R : Int) * C - (R : Int) % (L : Int) * ((C : Int) % (L : Int)))
        rw [if_pos c, Int.natCast_emod, Int.natCast_emod] at h
        get_elem_tactic_trivial
        rw [Int.mul_ediv_cancel_left _ (by omega)]
      · have c' : ¬ (R : Int) % (L : Int) + (C : Int) % (L : Int) ≤ (L : Int) := by omega
        have d := dv ((R : Int) * C - ((L : Int) - (R : Int) % (L : Int)) * ((L : Int) - (C : Int) % (L : Int)))
        rw [if_neg c, Int.natCast_emod, Int.natCast_emod] at h
        get_elem_tactic_trivial
        rw [Int.mul_ediv_cancel_left _ (by omega)]
end K23
namespace K23
open PySem PySem.Spec L2 Ev
open PyProof.Rows hiding St
local macro_rules | `(tactic| decreasing_trivial_pre_omega) => `(tactic| simp only [sCons_eq, seqO_next, seqO_ret, seqO_brk, seqO_cnt, seqO_exc, sNil, sSet, sIf, sRet, sRetN, sExpr, sPass, sBrk, sCnt, sAsg, ofH_some, sPar, bindE_ok, bindE_exc, bindEL_ok, bindL_ok, bindLL_ok, bindB_ok, bindBB_ok, bindEB_ok, bindS_ok, bindS_exc, bindBS_ok, cC, eV, eM, eBin, eUn, ofO_some, gAdd_int, gII_ok, gI_int, gOrd_int, gEq_int, fz_sh, fz_lst, eTest, toB_b, bNot, bAnd, bOr, gNot_b, eAnd_eq, eOr_eq, eIf, lNil, lCons, eTup, eLst, eCall, ofRv_ok, ofRv_exc, eFn, g1, gMax_two, hName, hCons, hNil, hTup, fgt, eMut, ofM, mApp_ok, ownT_lst, dLen_list, dLen_tup, gSub_list, gSub_tup, gSub_lst, atI_l0, atI_l1, atI_l2, atI_l3, atI_l4, atI_l5, atI_l6, Option.map_some, runP_eq, finP_ret, finP_next, finP_exc, List.getElem?_cons_zero, List.getElem?_cons_succ, List.set_cons_zero, List.set_cons_succ, List.map_cons, List.map_nil, List.replicate, List.cons_append, List.nil_append, if_true, if_false, Bool.false_eq_true, decide_true, Bool.false_xor, Bool.true_xor, decide_eq_true_eq, List.length_cons, List.length_nil, Nat.reduceAdd, Nat.reduceSub, Nat.reduceMul, Int.reduceLT, Int.reduceEq, Int.reduceSub, Int.reduceAdd, Int.reduceNeg, Int.reduceLE, Int.reduceToNat, sz_le, sz_lt, Nat.reduceLeDiff, Nat.reduceLT, Bool.not_true, Bool.not_false, Bool.true_and, Bool.and_true, Bool.false_or, Bool.or_false])
local macro_rules | `(tactic| get_elem_tactic_trivial) => `(tactic| simp only [sCons_eq, seqO_next, seqO_ret, seqO_brk, seqO_cnt, seqO_exc, sNil, sSet, sIf, sRet, sRetN, sExpr, sPass, sBrk, sCnt, sAsg, ofH_some, sPar, bindE_ok, bindE_exc, bindEL_ok, bindL_ok, bindLL_ok, bindB_ok, bindBB_ok, bindEB_ok, bindS_ok, bindS_exc, bindBS_ok, cC, eV, eM, eBin, eUn, ofO_some, gAdd_int, gII_ok, gI_int, gOrd_int, gEq_int, fz_sh, fz_lst, eTest, toB_b, bNot, bAnd, bOr, gNot_b, eAnd_eq, eOr_eq, eIf, lNil, lCons, eTup, eLst, eCall, ofRv_ok, ofRv_exc, eFn, g1, gMax_two, hName, hCons, hNil, hTup, fgt, eMut, ofM, mApp_ok, ownT_lst, dLen_list, dLen_tup, gSub_list, gSub_tup, gSub_lst, atI_l0, atI_l1, atI_l2, atI_l3, atI_l4, atI_l5, atI_l6, Option.map_some, runP_eq, finP_ret, finP_next, finP_exc, List.getElem?_cons_zero, List.getElem?_cons_succ, List.set_cons_zero, List.set_cons_succ, List.map_cons, List.map_nil, List.replicate, List.cons_append, List.nil_append, if_true, if_false, Bool.false_eq_true, decide_true, Bool.false_xor, Bool.true_xor, decide_eq_true_eq, List.length_cons, List.length_nil, Nat.reduceAdd, Nat.reduceSub, Nat.reduceMul, Int.reduceLT, Int.reduceEq, Int.reduceSub, Int.reduceAdd, Int.reduceNeg, Int.reduceLE, Int.reduceToNat, sz_le, sz_lt, Nat.reduceLeDiff, Nat.reduceLT, Bool.not_true, Bool.not_false, Bool.true_and, Bool.and_true, Bool.false_or, Bool.or_false, *])
theorem drawn_eq : m__law_drawn = Ev.m_drawn := rfl
theorem nat3 {a b c : Int} (ha : 0 ≤ a) (hb : 0 ≤ b) (hc : 0 ≤ c) : (PyData.tuple [.int a, .int b, .int c]) = .tuple [.int (a.toNat : Nat), .int (b.toNat : Nat), .int (c.toNat : Nat)] := by
  rw [Int.toNat_of_nonneg ha, Int.toNat_of_nonneg hb, Int.toNat_of_nonneg hc]
theorem sizes_ok (cell : Int) : ∃ R C L : Nat, 0 < R ∧ 0 < C ∧ 0 < L ∧ R ≤ 60 ∧ C ≤ 60 ∧ L ≤ 60 ∧ m__law_sizes [.int cell] = .ok (.sh (.tuple [.int R, .int C, .int L])) := by
  suffices h : ∃ a b c : Int, 0 < a ∧ 0 < b ∧ 0 < c ∧ a ≤ 60 ∧ b ≤ 60 ∧ c ≤ 60 ∧ m__law_sizes [.int cell] = .ok (.sh (.tuple [.int a, .int b, .int c])) by
    obtain ⟨a, b, c, ha, hb, hc, ha', hb', hc', e⟩ := h
    exact ⟨a.toNat, b.toNat, c.toNat, by omega, by omega, by omega, by omega, by omega, by omega, by rw [e, nat3 (by omega) (by omega) (by omega)]⟩
  obtain ⟨xs, hd, hl, hb⟩ := drawn_ok (cell := cell) (sizes := [6, 60, 60, 60, 6, 12]) (by decide) (by decide)
  match xs, hl, hd, hb with
  | [way, rows, columns, length, times, more], _, hd, hb =>
    have b0 := hb 0 way 6 rfl rfl
    have b1 := hb 1 rows 60 rfl rfl
    have b2 := hb 2 columns 60 rfl rfl
    have b3 := hb 3 length 60 rfl rfl
    have b4 := hb 4 times 6 rfl rfl
    have b5 := hb 5 more 12 rfl rfl
    clear hb
    rw [← drawn_eq] at hd
    simp only [iDs, iOs, List.map_cons, List.map_nil] at hd
    have r12 : rows % 12 < 12 ∧ 0 ≤ rows % 12 := by omega
    have c12 : columns % 12 < 12 ∧ 0 ≤ columns % 12 := by omega
    have l6 : length % 6 < 6 ∧ 0 ≤ length % 6 := by omega
    have l15 : length % 15 < 15 ∧ 0 ≤ length % 15 := by omega
    unfold m__law_sizes b__law_sizes
    by_cases w2 : way < 2
    · refine ⟨1 + rows % 12, 1 + columns % 12, 1 + length % 6, by omega, by omega, by omega, by omega, by omega, by omega, ?_⟩
      get_elem_tactic_trivial
    · by_cases w3 : way = 2
      · refine ⟨1 + rows, 1 + columns, 1 + length, by omega, by omega, by omega, by omega, by omega, by omega, ?_⟩
        get_elem_tactic_trivial
      · by_cases w4 : way = 3
        · refine ⟨1 + rows, 1 + columns, 1 + length % 15, by omega, by omega, by omega, by omega, by omega, by omega, ?_⟩
          get_elem_tactic_trivial
        · have l0 : 0 < 1 + length % 15 := by omega
          have t3 : 0 ≤ times % 3 := by omega
          have m3 : 0 ≤ more % 3 := by omega
          have ra := Int.emod_nonneg rows (by omega : (1 + length % 15) ≠ 0)
          have ca := Int.emod_nonneg columns (by omega : (1 + length % 15) ≠ 0)
          have cb := Int.emod_lt_of_pos columns l0
          have q1 : mulOk (1 + length % 15) (1 + times % 3) = true := mulOk_l ⟨by omega, by omega⟩
          have q2 : mulOk (1 + length % 15) (1 + more % 3) = true := mulOk_l ⟨by omega, by omega⟩
          have p1 : 0 < (1 + length % 15) * (1 + times % 3) := Int.mul_pos l0 (by omega)
          have p2 : 0 < (1 + length % 15) * (1 + more % 3) := Int.mul_pos l0 (by omega)
          have k1 : 0 < min2 60 ((1 + length % 15) * (1 + times % 3) + rows % (1 + length % 15)) ∧ min2 60 ((1 + length % 15) * (1 + times % 3) + rows % (1 + length % 15)) ≤ 60 := by
            generalize (1 + length % 15) * (1 + times % 3) = z at *
            generalize rows % (1 + length % 15) = y at *
            unfold min2
            by_cases h : z + y < 60
            · rw [if_pos h]; omega
            · rw [if_neg h]; omega
          have k2 : 0 < min2 60 ((1 + length % 15) * (1 + more % 3) + columns % (1 + length % 15)) ∧ min2 60 ((1 + length % 15) * (1 + more % 3) + columns % (1 + length % 15)) ≤ 60 := by
            generalize (1 + length % 15) * (1 + more % 3) = z at *
            generalize columns % (1 + length % 15) = y at *
            unfold min2
            by_cases h : z + y < 60
            · rw [if_pos h]; omega
            · rw [if_neg h]; omega
          by_cases w5 : way = 4
          · subst w5
            refine ⟨_, _, 1 + length % 15, k1.1, k2.1, by omega, k1.2, k2.2, by omega, ?_⟩
            get_elem_tactic_trivial
          · have : way = 5 := by omega
            subst this
            refine ⟨_, 1 + columns % (1 + length % 15), 1 + length % 15, k1.1, by omega, by omega, k1.2, by omega, by omega, ?_⟩
            get_elem_tactic_trivial
end K23
namespace K23
open PySem PySem.Spec L2 Ev
open PyProof.Rows hiding St
local macro_rules | `(tactic| decreasing_trivial_pre_omega) => `(tactic| simp only [sCons_eq, seqO_next, seqO_ret, seqO_brk, seqO_cnt, seqO_exc, sNil, sSet, sIf, sRet, sRetN, sExpr, sPass, sBrk, sCnt, sAsg, ofH_some, sPar, bindE_ok, bindE_exc, bindEL_ok, bindL_ok, bindLL_ok, bindB_ok, bindBB_ok, bindEB_ok, bindS_ok, bindS_exc, bindBS_ok, cC, eV, eM, eBin, eUn, ofO_some, gAdd_int, gII_ok, gI_int, gOrd_int, gEq_int, fz_sh, fz_lst, eTest, toB_b, bNot, bAnd, bOr, gNot_b, eAnd_eq, eOr_eq, eIf, lNil, lCons, eTup, eLst, eCall, ofRv_ok, ofRv_exc, eFn, g1, gMax_two, hName, hCons, hNil, hTup, fgt, eMut, ofM, mApp_ok, ownT_lst, dLen_list, dLen_tup, gSub_list, gSub_tup, gSub_lst, atI_l0, atI_l1, atI_l2, atI_l3, atI_l4, atI_l5, atI_l6, Option.map_some, runP_eq, finP_ret, finP_next, finP_exc, List.getElem?_cons_zero, List.getElem?_cons_succ, List.set_cons_zero, List.set_cons_succ, List.map_cons, List.map_nil, List.replicate, List.cons_append, List.nil_append, if_true, if_false, Bool.false_eq_true, decide_true, Bool.false_xor, Bool.true_xor, decide_eq_true_eq, List.length_cons, List.length_nil, Nat.reduceAdd, Nat.reduceSub, Nat.reduceMul, Int.reduceLT, Int.reduceEq, Int.reduceSub, Int.reduceAdd, Int.reduceNeg, Int.reduceLE, Int.reduceToNat, sz_le, sz_lt, Nat.reduceLeDiff, Nat.reduceLT, Bool.not_true, Bool.not_false, Bool.true_and, Bool.and_true, Bool.false_or, Bool.or_false])
local macro_rules | `(tactic| get_elem_tactic_trivial) => `(tactic| simp only [sCons_eq, seqO_next, seqO_ret, seqO_brk, seqO_cnt, seqO_exc, sNil, sSet, sIf, sRet, sRetN, sExpr, sPass, sBrk, sCnt, sAsg, ofH_some, sPar, bindE_ok, bindE_exc, bindEL_ok, bindL_ok, bindLL_ok, bindB_ok, bindBB_ok, bindEB_ok, bindS_ok, bindS_exc, bindBS_ok, cC, eV, eM, eBin, eUn, ofO_some, gAdd_int, gII_ok, gI_int, gOrd_int, gEq_int, fz_sh, fz_lst, eTest, toB_b, bNot, bAnd, bOr, gNot_b, eAnd_eq, eOr_eq, eIf, lNil, lCons, eTup, eLst, eCall, ofRv_ok, ofRv_exc, eFn, g1, gMax_two, hName, hCons, hNil, hTup, fgt, eMut, ofM, mApp_ok, ownT_lst, dLen_list, dLen_tup, gSub_list, gSub_tup, gSub_lst, atI_l0, atI_l1, atI_l2, atI_l3, atI_l4, atI_l5, atI_l6, Option.map_some, runP_eq, finP_ret, finP_next, finP_exc, List.getElem?_cons_zero, List.getElem?_cons_succ, List.set_cons_zero, List.set_cons_succ, List.map_cons, List.map_nil, List.replicate, List.cons_append, List.nil_append, if_true, if_false, Bool.false_eq_true, decide_true, Bool.false_xor, Bool.true_xor, decide_eq_true_eq, List.length_cons, List.length_nil, Nat.reduceAdd, Nat.reduceSub, Nat.reduceMul, Int.reduceLT, Int.reduceEq, Int.reduceSub, Int.reduceAdd, Int.reduceNeg, Int.reduceLE, Int.reduceToNat, sz_le, sz_lt, Nat.reduceLeDiff, Nat.reduceLT, Bool.not_true, Bool.not_false, Bool.true_and, Bool.and_true, Bool.false_or, Bool.or_false, *])
theorem turn_ok (sc : OV) (cell : Int) : ∃ ρ2, b_law_1 [some sc, some (.sh (.int cell)), none, none, none, none] = .next ρ2 ∧ fgt [1, 2, 3, 4, 5] ρ2 = [some sc, none, none, none, none, none] := by
  obtain ⟨R, C, L, r0, c0, l0, r1, c1, l1, hs⟩ := sizes_ok cell
  have f0 := least_net_ok (R := R) (C := C) l0 ⟨by omega, by omega, by omega⟩
  have g0 := law_least_ok (R := R) (C := C) l0 ⟨by omega, by omega, by omega⟩
  have f1 := least_net_ok (R := C) (C := R) l0 ⟨by omega, by omega, by omega⟩
  have f2 := least_net_ok (R := R + 1) (C := C) l0 ⟨by omega, by omega, by omega⟩
  have f3 := least_net_ok (R := R) (C := C) (L := L + 1) (by omega) ⟨by omega, by omega, by omega⟩
  have w := whole_ok (i := (lN R C L : Nat))
  rw [← lN_comm l0 R C] at f1
  have m2 := lN_rows l0 R C
  have m3 := lN_longer l0 r0 c0 r1 c1
  rw [show ((R + 1 : Nat) : Int) = (R : Int) + 1 from by omega] at f2
  rw [show ((L + 1 : Nat) : Int) = (L : Int) + 1 from by omega] at f3
  have n2 : ¬ ((lN (R + 1) C L : Nat) : Int) < (lN R C L : Nat) := by omega
  have n3 : ¬ ((lN R C L : Nat) : Int) < (lN R C (L + 1) : Nat) := by omega
  clear m2 m3
  refine ⟨[some sc, some (.sh (.int cell)), some (.sh (.int R)), some (.sh (.int C)), some (.sh (.int L)), some (.sh (.int (lN R C L)))], ?_, rfl⟩
  unfold b_law_1
  by_cases a : (R : Int) < 60
  · by_cases b : (L : Int) < 60
    · get_elem_tactic_trivial
    · get_elem_tactic_trivial
  · by_cases b : (L : Int) < 60
    · get_elem_tactic_trivial
    · get_elem_tactic_trivial
theorem law_true (ns : List Int) (h : scOk ns) : m_law [.list (ns.map .int)] = .ok (.sh (.bool true)) := by
  obtain ⟨ms, hi⟩ := scriptIter (ns := ns) (ρ := [none, none, none, none, none]) (n := 40) h.1
  have hf := forL_same (fs := [1, 2, 3, 4, 5]) (h := hName 1) (body := b_law_1) (ds := ms.map .int) (ρ := [some (.sh (iDs ns)), none, none, none, none, none]) (fun d hd => by
    obtain ⟨cell, _, rfl⟩ := List.mem_map.mp hd
    obtain ⟨ρ2, e1, e2⟩ := turn_ok (.sh (iDs ns)) cell
    exact ⟨_, ρ2, rfl, .inl e1, e2⟩)
  unfold m_law b_law
  decreasing_trivial_pre_omega
  rw [sFor_ok hi]
  decreasing_trivial_pre_omega
  rw [hf]
  decreasing_trivial_pre_omega
end K23
open PySem PySem.W PySem.Calls PyProof.Rows
set_option maxRecDepth 100000
set_option maxHeartbeats 0 in
theorem PySem.Challenge.cw_fleethide_k23_how_many_a_net_has_holds : PySem.Challenge.rw_fleethide_k23_how_many_a_net_has.Holds := by
  w_on; o_law
  refine HandSHeadRun.head_any (r := K23.RW) (q := view K23.RW.prog [9]) (H := K23.hkL) (ob := K23.obL) (M := 1000) (loose := K23.looseL) (d := HandSHeadRun.topDef K23.RW.prog 9) (kwd := []) K23.obL_eq
    (by kernel_rfl) (fun s => by kernel_rfl) K23.runL (by kernel_rfl) (by kernel_rfl) (by kernel_rfl) (by rfl) (by first | assumption | decide +kernel) (by decide +kernel) ⟨rfl, rfl, rfl, rfl, rfl, by decide +kernel⟩ ?hw ?hc
  case hw => w_witness2
  case hc =>
    refine Ev.walkE (l := PySem.Challenge.rw_fleethide_k23_how_many_a_net_has) (k := 4) ⟨rfl, by decide, by decide⟩ rfl (by kernel_rfl) ?F
    intro w mg fa h Y hmg0 G
    obtain ⟨K, KX, c⟩ := Y
    have e0 : (HandSHeadRun.topDef K23.RW.prog 9).name = ("law" : PySem.Str) := by kernel_rfl
    rw [e0] at hmg0
    have T := K23.topL KX G c
    obtain ⟨fd, F⟩ := c.t.d.def_ 7 (d := K23.dd_law) rfl
    have ef := hmg0.symm.trans (He.glo_ok KX G (c.t.d.fact 7 (f := .glo "law") rfl))
    cases ef
    exact ⟨K, fd, KX, fun s u => L2.FunD.bindsA (ps := ["script"]) F (fun _ _ _ _ _ _ us hl => match us, hl with | [_], _ => rfl) s [u] rfl, fun base _ _ => Ev.law_of K23.law_true (K23.ok_law T F)⟩


