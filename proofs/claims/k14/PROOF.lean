import PyProof.Rows.All
import Wide.All
import OpenK.AllK
import Wide.FinOn
import HandS.ForMost
import HandS.IsInst
import HandS.Flow
import HandS.Wide
import HandS.Style
import HandS.Walk
import HandS.Text
import HandS.More
import HandS.TupMul
import HandS.TupAny
import HandS.Deep
import HandS.WordsDict
import HandS.TupLe
import HandS.Small
import HandS.Zip
import HandS.WideBits
import HandS.Words
import HandS.Ends
import HandS.EndBits
import PySem.Challenge.RW_nextless_k14_any_value_as_address_ahead
set_option Elab.async false
set_option linter.all false
set_option maxRecDepth 100000
section
set_option maxHeartbeats 1000000
/-! Nx1: plain data D, the store, how both lie in the abstract heap of the layer, what stays. -/
namespace Nx
open PySem PySem.Spec PyProof.Rows L2

abbrev AHp := L2.Hp
/-- a value as plain data: tuples by what is in them, lists and dicts by their number in the store; lis: a list that never changes (the script) -/
inductive D where
  | non | bl (b : Bool) | int (i : Int) | str (s : Str) | tup (ds : List D) | ref (l : Nat) | lis (ds : List D)
/-- what stands in the store -/
inductive MO where
  | lst (ds : List D)
  | dct (kvs : List (L2.Key × D))
abbrev Sto := List MO

/-- a tuple lies at a -/
def TupAt (K : PySem.W.Frag) (H : AHp) (a : Addr) (vs : List V) : Prop :=
  vs.length ≤ sizeLine ∧ (H a = some (.tup vs) ∨ ((∃ o its n, List.lookup a K = some o ∧ o.cls = Value.type "tuple" ∧ o.data = Data.seq its n ∧ its.size ≤ sizeLine ∧ Vals vs its.toList)))
/-- a list that never changes lies at a -/
def FroAt (K : PySem.W.Frag) (H : AHp) (a : Addr) (vs : List V) : Prop :=
  vs.length ≤ sizeLine ∧ ((∃ ob, H a = some (.frz ob (.lst vs))) ∨ ((∃ o its n, List.lookup a K = some o ∧ o.cls = Value.type "list" ∧ o.dict = none ∧ o.data = Data.seq its n ∧ its.size ≤ sizeLine ∧ Vals vs its.toList)))
theorem FroAt.sq {K : PySem.W.Frag} {H : AHp} {a : Addr} {vs : List V} (h : FroAt K H a vs) : SqL K H a vs := by
  rcases h with ⟨_, h | h⟩
  · exact Or.inl (Or.inr h)
  · exact Or.inr h
theorem TupAt.sq {K : PySem.W.Frag} {H : AHp} {a : Addr} {vs : List V} (h : TupAt K H a vs) : SqT K H a vs := by
  rcases h with ⟨_, h | h⟩
  · exact Or.inl (Or.inl h)
  · exact Or.inr h

mutual
inductive Rep (K : PySem.W.Frag) (μ : List Addr) (H : AHp) : D → V → Prop
  | non : Rep K μ H .non .non
  | bl (b : Bool) : Rep K μ H (.bl b) (.bl b)
  | int (i : Int) : Rep K μ H (.int i) (.int i)
  | str (s : Str) (h : s.length ≤ sizeLine) : Rep K μ H (.str s) (.str s)
  | tup {a : Addr} {ds : List D} {vs : List V} : TupAt K H a vs → RepL K μ H ds vs → Rep K μ H (.tup ds) (.ref a)
  | ref {l : Nat} {a : Addr} : μ[l]? = some a → Rep K μ H (.ref l) (.ref a)
  | lis {a : Addr} {ds : List D} {vs : List V} : FroAt K H a vs → RepL K μ H ds vs → Rep K μ H (.lis ds) (.ref a)
inductive RepL (K : PySem.W.Frag) (μ : List Addr) (H : AHp) : List D → List V → Prop
  | nil : RepL K μ H [] []
  | cons {d : D} {v : V} {ds : List D} {vs : List V} : Rep K μ H d v → RepL K μ H ds vs → RepL K μ H (d :: ds) (v :: vs)
end

/-- the dict's entries -/
inductive RepKV (K : PySem.W.Frag) (μ : List Addr) (H : AHp) : List (L2.Key × D) → List (L2.Key × V) → Prop
  | nil : RepKV K μ H [] []
  | cons {k : L2.Key} {d : D} {v : V} {r : List (L2.Key × D)} {s : List (L2.Key × V)} : Rep K μ H d v → RepKV K μ H r s → RepKV K μ H ((k, d) :: r) ((k, v) :: s)

/-- what a thing of the store is in the heap -/
def ObjRep (K : PySem.W.Frag) (μ : List Addr) (H : AHp) (a : Addr) : MO → Prop
  | .lst ds => ∃ vs, H a = some (.lst vs) ∧ vs.length ≤ sizeLine ∧ RepL K μ H ds vs
  | .dct kvs => ∃ s, H a = some (.dK s) ∧ s.length ≤ sizeLine ∧ RepKV K μ H kvs s

/-- the store lies in the heap, at the addresses μ -/
structure StoOk (K : PySem.W.Frag) (μ : List Addr) (st : Sto) (H : AHp) : Prop where
  len : μ.length = st.length
  nd : μ.Nodup
  obj : ∀ (l : Nat) (a : Addr) (o : MO), μ[l]? = some a → st[l]? = some o → ObjRep K μ H a o

/-- what stays of what is said of data -/
structure Gr (K : PySem.W.Frag) (μ : List Addr) (H : AHp) (μ' : List Addr) (H' : AHp) : Prop where
  pre : ∀ (l : Nat) (a : Addr), μ[l]? = some a → μ'[l]? = some a
  tup : ∀ (a : Addr) (vs : List V), H a = some (.tup vs) → H' a = some (.tup vs)
  frz : ∀ (a : Addr) (ob : Obj) (u : HO), H a = some (.frz ob u) → H' a = some (.frz ob u)
/-- a later heap: what the store names may have changed; all else that was tracked stands -/
structure Fw (K : PySem.W.Frag) (μ : List Addr) (H : AHp) (μ' : List Addr) (H' : AHp) : Prop extends Gr K μ H μ' H' where
  keep : ∀ (a : Addr) (o : HO), H a = some o → a ∉ μ → H' a = some o
  /-- an address that the later store names was named before, or was free -/
  new : ∀ (l : Nat) (a : Addr), μ'[l]? = some a → a ∈ μ ∨ H a = none
  kl : ∀ (a : Addr) (vs : List V), H a = some (.lst vs) → ∃ ws, H' a = some (.lst ws)
  kd : ∀ (a : Addr) (vs : List (L2.Key × V)), H a = some (.dK vs) → ∃ ws, H' a = some (.dK ws)

theorem Fw.refl (K : PySem.W.Frag) (μ : List Addr) (H : AHp) : Fw K μ H μ H :=
  ⟨⟨fun _ _ h => h, fun _ _ h => h, fun _ _ _ h => h⟩, fun _ _ h _ => h, fun l a h => .inl (List.mem_of_getElem? h), fun _ vs h => ⟨vs, h⟩, fun _ vs h => ⟨vs, h⟩⟩
theorem Fw.mem {K : PySem.W.Frag} {μ μ' : List Addr} {H H' : AHp} (f : Fw K μ H μ' H') {a : Addr} (h : a ∈ μ) : a ∈ μ' := by
  obtain ⟨l, hl⟩ := List.getElem?_of_mem h
  exact List.mem_of_getElem? (f.pre l a hl)
/-- what was tracked and not named is not named later -/
theorem Fw.out {K : PySem.W.Frag} {μ μ' : List Addr} {H H' : AHp} (f : Fw K μ H μ' H') {a : Addr} {o : HO} (h : H a = some o) (n : a ∉ μ) : a ∉ μ' := fun q => by
  obtain ⟨l, hl⟩ := List.getElem?_of_mem q
  rcases f.new l a hl with q | q
  · exact n q
  · rw [h] at q; cases q
theorem Fw.trans {K : PySem.W.Frag} {μ μ1 μ2 : List Addr} {H H1 H2 : AHp} (f : Fw K μ H μ1 H1) (g : Fw K μ1 H1 μ2 H2) : Fw K μ H μ2 H2 where
  pre := fun l a h => g.pre l a (f.pre l a h)
  keep := fun a o h n => g.keep a o (f.keep a o h n) (f.out h n)
  tup := fun a vs h => g.tup a vs (f.tup a vs h)
  frz := fun a ob u h => g.frz a ob u (f.frz a ob u h)
  kl := fun a vs h => let ⟨ws, h1⟩ := f.kl a vs h; g.kl a ws h1
  kd := fun a vs h => let ⟨ws, h1⟩ := f.kd a vs h; g.kd a ws h1
  new := fun l a h => by
    rcases g.new l a h with q | q
    · obtain ⟨j, hj⟩ := List.getElem?_of_mem q
      exact f.new j a hj
    · by_cases m : a ∈ μ
      · exact .inl m
      · cases e : H a with
        | none => exact .inr rfl
        | some o =>
          rw [f.keep a o e m] at q
          cases q
theorem FroAt.fw {K : PySem.W.Frag} {μ μ' : List Addr} {H H' : AHp} (f : Gr K μ H μ' H') {a : Addr} {vs : List V} (h : FroAt K H a vs) : FroAt K H' a vs := by
  rcases h with ⟨z, ⟨ob, h⟩ | h⟩
  · exact ⟨z, .inl ⟨ob, f.frz a ob _ h⟩⟩
  · exact ⟨z, .inr h⟩
theorem TupAt.fw {K : PySem.W.Frag} {μ μ' : List Addr} {H H' : AHp} (f : Gr K μ H μ' H') {a : Addr} {vs : List V} (h : TupAt K H a vs) : TupAt K H' a vs := by
  rcases h with ⟨z, h | h⟩
  · exact ⟨z, .inl (f.tup a vs h)⟩
  · exact ⟨z, .inr h⟩
mutual
theorem Rep.fw {K : PySem.W.Frag} {μ μ' : List Addr} {H H' : AHp} (f : Gr K μ H μ' H') : ∀ {d : D} {v : V}, Rep K μ H d v → Rep K μ' H' d v
  | _, _, .non => .non
  | _, _, .bl b => .bl b
  | _, _, .int i => .int i
  | _, _, .str s h => .str s h
  | _, _, .tup t r => .tup (t.fw f) (RepL.fw f r)
  | _, _, .ref h => .ref (f.pre _ _ h)
  | _, _, .lis t r => .lis (t.fw f) (RepL.fw f r)
theorem RepL.fw {K : PySem.W.Frag} {μ μ' : List Addr} {H H' : AHp} (f : Gr K μ H μ' H') : ∀ {ds : List D} {vs : List V}, RepL K μ H ds vs → RepL K μ' H' ds vs
  | _, _, .nil => .nil
  | _, _, .cons r t => .cons (r.fw f) (RepL.fw f t)
end
theorem RepKV.fw {K : PySem.W.Frag} {μ μ' : List Addr} {H H' : AHp} (f : Gr K μ H μ' H') : ∀ {ds : List (L2.Key × D)} {vs : List (L2.Key × V)}, RepKV K μ H ds vs → RepKV K μ' H' ds vs
  | _, _, .nil => .nil
  | _, _, .cons r t => .cons (r.fw f) (RepKV.fw f t)

section
variable {K : PySem.W.Frag} {μ : List Addr} {H : AHp}
theorem RepL.length : ∀ {ds : List D} {vs : List V}, RepL K μ H ds vs → ds.length = vs.length
  | _, _, .nil => rfl
  | _, _, .cons _ t => by simp [t.length]
theorem RepL.get : ∀ {ds : List D} {vs : List V} {i : Nat} {d : D}, RepL K μ H ds vs → ds[i]? = some d → ∃ v, vs[i]? = some v ∧ Rep K μ H d v
  | _, _, _, _, .nil, e => by simp at e
  | _, _, 0, _, .cons r _, e => by simp at e; subst e; exact ⟨_, rfl, r⟩
  | _, _, i + 1, d, .cons _ t, e => by
    obtain ⟨v, h1, h2⟩ := RepL.get (i := i) (d := d) t (by simpa using e)
    exact ⟨v, by simpa using h1, h2⟩
theorem RepL.append : ∀ {ds es : List D} {vs ws : List V}, RepL K μ H ds vs → RepL K μ H es ws → RepL K μ H (ds ++ es) (vs ++ ws)
  | _, _, _, _, .nil, s => s
  | _, _, _, _, .cons r t, s => .cons r (RepL.append t s)
theorem RepL.take : ∀ {ds : List D} {vs : List V} (n : Nat), RepL K μ H ds vs → RepL K μ H (ds.take n) (vs.take n)
  | _, _, 0, _ => .nil
  | _, _, _ + 1, .nil => .nil
  | _, _, n + 1, .cons r t => .cons r (RepL.take n t)
theorem RepL.drop : ∀ {ds : List D} {vs : List V} (n : Nat), RepL K μ H ds vs → RepL K μ H (ds.drop n) (vs.drop n)
  | _, _, 0, r => r
  | _, _, _ + 1, .nil => .nil
  | _, _, n + 1, .cons _ t => RepL.drop n t
theorem RepL.reverse {ds : List D} {vs : List V} (h : RepL K μ H ds vs) : RepL K μ H ds.reverse vs.reverse := by
  induction ds generalizing vs with
  | nil => cases h; exact .nil
  | cons d ds ih =>
    cases h with
    | cons r t =>
      rw [List.reverse_cons, List.reverse_cons]
      exact (ih t).append (.cons r .nil)
theorem RepL.set : ∀ {ds : List D} {vs : List V} {d : D} {v : V} (i : Nat), Rep K μ H d v → RepL K μ H ds vs → RepL K μ H (ds.set i d) (vs.set i v)
  | _, _, _, _, _, _, .nil => .nil
  | _, _, _, _, 0, r, .cons _ t => .cons r t
  | _, _, _, _, i + 1, r, .cons q t => .cons q (RepL.set i r t)
theorem RepL.rep {ds : List D} {vs : List V} (h : RepL K μ H ds vs) : ∀ n : Nat, RepL K μ H (List.replicate n ds).flatten (List.replicate n vs).flatten
  | 0 => .nil
  | n + 1 => by
    rw [List.replicate_succ, List.replicate_succ, List.flatten_cons, List.flatten_cons]
    exact h.append (h.rep n)
end

/-- the store named in a later heap: it stands, if its things do -/
theorem ObjRep.fw {K : PySem.W.Frag} {μ μ' : List Addr} {H H' : AHp} (f : Gr K μ H μ' H') {a : Addr} {o : MO} (h : ObjRep K μ H a o) (st : ∀ u, H a = some u → H' a = some u) : ObjRep K μ' H' a o := by
  cases o with
  | lst ds => obtain ⟨vs, e, z, r⟩ := h; exact ⟨vs, st _ e, z, r.fw f⟩
  | dct kvs => obtain ⟨s, e, z, r⟩ := h; exact ⟨s, st _ e, z, r.fw f⟩

/-- the store stands in a later heap that keeps its things -/
theorem StoOk.fw {K : PySem.W.Frag} {μ : List Addr} {st : Sto} {H H' : AHp} (S : StoOk K μ st H) (f : Gr K μ H μ H') (same : ∀ a ∈ μ, ∀ u, H a = some u → H' a = some u) : StoOk K μ st H' :=
  ⟨S.len, S.nd, fun l a o h1 h2 => (S.obj l a o h1 h2).fw f (same a (List.mem_of_getElem? h1))⟩
/-- a new thing, not named by the store -/
theorem Fw.fresh {K : PySem.W.Frag} {μ : List Addr} {H : AHp} {p : Addr} {o : HO} (n : H p = none) : Fw K μ H μ (upd H p o) where
  pre := fun _ _ h => h
  keep := fun a u h _ => by rw [upd_ne (ne_of_none h n)]; exact h
  tup := fun a vs h => by rw [upd_ne (ne_of_none h n)]; exact h
  frz := fun a ob u h => by rw [upd_ne (ne_of_none h n)]; exact h
  kl := fun a vs h => ⟨vs, by rw [upd_ne (ne_of_none h n)]; exact h⟩
  kd := fun a vs h => ⟨vs, by rw [upd_ne (ne_of_none h n)]; exact h⟩
  new := fun l a h => .inl (List.mem_of_getElem? h)
theorem StoOk.fresh {K : PySem.W.Frag} {μ : List Addr} {st : Sto} {H : AHp} {p : Addr} {o : HO} (S : StoOk K μ st H) (n : H p = none) : StoOk K μ st (upd H p o) :=
  S.fw (Fw.fresh n).toGr fun a _ u h => by rw [upd_ne (ne_of_none h n)]; exact h
theorem StoOk.at {K : PySem.W.Frag} {μ : List Addr} {st : Sto} {H : AHp} (S : StoOk K μ st H) {l : Nat} {a : Addr} (h : μ[l]? = some a) : ∃ o, st[l]? = some o ∧ ObjRep K μ H a o := by
  have hl : l < st.length := by rw [← S.len]; exact (List.getElem?_eq_some_iff.mp h).1
  exact ⟨st[l], by simp [hl], S.obj l a st[l] h (by simp [hl])⟩
theorem get_snoc {α : Type} {μ : List α} {p : α} {l : Nat} {a : α} (h : μ[l]? = some a) : (μ ++ [p])[l]? = some a := by
  have hl := (List.getElem?_eq_some_iff.mp h).1
  rw [List.getElem?_append_left hl]; exact h
/-- one more name -/
theorem Gr.name {K : PySem.W.Frag} {μ : List Addr} {H : AHp} {p : Addr} : Gr K μ H (μ ++ [p]) H := ⟨fun _ _ h => get_snoc h, fun _ _ h => h, fun _ _ _ h => h⟩
theorem StoOk.name {K : PySem.W.Frag} {μ : List Addr} {st : Sto} {H : AHp} {p : Addr} {o : MO} (S : StoOk K μ st H) (n : p ∉ μ) (h : ObjRep K μ H p o) : StoOk K (μ ++ [p]) (st ++ [o]) H where
  len := by simp [S.len]
  nd := List.nodup_append.mpr ⟨S.nd, by simp, fun a ha b hb => by simp at hb; subst hb; exact fun e => n (e ▸ ha)⟩
  obj := fun l a u h1 h2 => by
    by_cases hl : l < μ.length
    · rw [List.getElem?_append_left hl] at h1
      rw [List.getElem?_append_left (by rw [← S.len]; exact hl)] at h2
      exact (S.obj l a u h1 h2).fw Gr.name fun _ e => e
    · have e : l = μ.length := by
        have := (List.getElem?_eq_some_iff.mp h1).1
        simp at this
        omega
      subst e
      rw [List.getElem?_append_right (Nat.le_refl _)] at h1
      rw [List.getElem?_append_right (by rw [S.len]; exact Nat.le_refl _), S.len] at h2
      simp at h1 h2
      subst h1
      subst h2
      exact h.fw Gr.name fun _ e => e
theorem Fw.named {K : PySem.W.Frag} {μ μ' : List Addr} {H H' : AHp} {p : Addr} (f : Fw K μ H μ' H') (n : H p = none) : Fw K μ H (μ' ++ [p]) H' where
  pre := fun l a h => get_snoc (f.pre l a h)
  keep := f.keep
  tup := f.tup
  frz := f.frz
  kl := f.kl
  kd := f.kd
  new := fun l a h => by
    by_cases hl : l < μ'.length
    · rw [List.getElem?_append_left hl] at h
      exact f.new l a h
    · have e : l = μ'.length := by
        have := (List.getElem?_eq_some_iff.mp h).1
        simp at this
        omega
      subst e
      rw [List.getElem?_append_right (Nat.le_refl _)] at h
      simp at h
      subst h
      exact .inr n
/-- a list stays a list, a dict a dict -/
def SameKd : HO → HO → Prop
  | .lst _, .lst _ => True
  | .dK _, .dK _ => True
  | _, _ => False
/-- a thing of the store is written -/
theorem Fw.write {K : PySem.W.Frag} {μ : List Addr} {H : AHp} {l : Nat} {a : Addr} {o o' : HO} (hl : μ[l]? = some a) (ha : H a = some o) (hk : SameKd o o') : Fw K μ H μ (upd H a o') where
  pre := fun _ _ h => h
  keep := fun b u h n => by rw [upd_ne (fun e => n (by rw [e]; exact List.mem_of_getElem? hl))]; exact h
  tup := fun b vs h => by rw [upd_ne (fun e => by rw [e, ha] at h; cases h; cases o' <;> exact hk)]; exact h
  frz := fun b ob u h => by rw [upd_ne (fun e => by rw [e, ha] at h; cases h; cases o' <;> exact hk)]; exact h
  kl := fun b vs h => by
    by_cases e : b = a
    · subst e
      rw [ha] at h
      cases h
      cases o' with
      | lst ws => exact ⟨ws, upd_same⟩
      | _ => exact False.elim hk
    · exact ⟨vs, by rw [upd_ne e]; exact h⟩
  kd := fun b vs h => by
    by_cases e : b = a
    · subst e
      rw [ha] at h
      cases h
      cases o' with
      | dK ws => exact ⟨ws, upd_same⟩
      | _ => exact False.elim hk
    · exact ⟨vs, by rw [upd_ne e]; exact h⟩
  new := fun l a h => .inl (List.mem_of_getElem? h)
theorem StoOk.write {K : PySem.W.Frag} {μ : List Addr} {st : Sto} {H : AHp} {l : Nat} {a : Addr} {o o' : HO} {m : MO} (S : StoOk K μ st H) (hl : μ[l]? = some a) (ha : H a = some o) (hk : SameKd o o')
    (h : ObjRep K μ (upd H a o') a m) : StoOk K μ (st.set l m) (upd H a o') where
  len := by simp [S.len]
  nd := S.nd
  obj := fun j b u h1 h2 => by
    by_cases e : j = l
    · subst e
      rw [hl] at h1
      cases h1
      have hj : j < st.length := by
        have := (List.getElem?_eq_some_iff.mp h2).1
        simpa using this
      rw [List.getElem?_set_self hj] at h2
      cases h2
      exact h
    · rw [List.getElem?_set_ne (Ne.symm e)] at h2
      have nb : b ≠ a := fun q => by
        subst q
        obtain ⟨x1, y1⟩ := List.getElem?_eq_some_iff.mp h1
        obtain ⟨x2, y2⟩ := List.getElem?_eq_some_iff.mp hl
        exact e ((List.getElem_inj S.nd).mp (y1.trans y2.symm))
      exact (S.obj j b u h1 h2).fw (Fw.write (o' := o') hl ha hk).toGr fun w hw => by rw [upd_ne nb]; exact hw

/-- what the store names is tracked -/
theorem StoOk.there {K : PySem.W.Frag} {μ : List Addr} {st : Sto} {H : AHp} (S : StoOk K μ st H) {a : Addr} (h : a ∈ μ) : H a ≠ none := fun e => by
  obtain ⟨l, hl⟩ := List.getElem?_of_mem h
  obtain ⟨o, ho, q⟩ := S.at hl
  cases o with
  | lst ds => obtain ⟨vs, h1, _⟩ := q; rw [e] at h1; cases h1
  | dct ds => obtain ⟨vs, h1, _⟩ := q; rw [e] at h1; cases h1
theorem Fw.free {K : PySem.W.Frag} {μ μ' : List Addr} {st : Sto} {H H' : AHp} (f : Fw K μ H μ' H') (S : StoOk K μ' st H') {p : Addr} (h : H' p = none) : H p = none ∧ p ∉ μ' := by
  have n : p ∉ μ' := fun m => S.there m h
  refine ⟨?_, n⟩
  by_cases m : p ∈ μ
  · exact absurd (f.mem m) n
  · cases q : H p with
    | none => rfl
    | some o =>
      rw [f.keep p o q m] at h
      cases h

/-! ### values, and lists that are new and have no name -/
inductive W where
  | val (d : D)
  | new (ds : List D)
/-- H0: the heap ahead of the making -/
def RepW (K : PySem.W.Frag) (H0 : AHp) (μ : List Addr) (H : AHp) : W → V → Prop
  | .val d, v => Rep K μ H d v
  | .new ds, v => ∃ p vs, v = .ref p ∧ H0 p = none ∧ p ∉ μ ∧ H p = some (.lst vs) ∧ vs.length ≤ sizeLine ∧ RepL K μ H ds vs
theorem RepW.fw {K : PySem.W.Frag} {μ μ' : List Addr} {H0 H H' : AHp} (f : Fw K μ H μ' H') : ∀ {w : W} {v : V}, RepW K H0 μ H w v → RepW K H0 μ' H' w v
  | .val d, v, h => Rep.fw f.toGr h
  | .new ds, v, ⟨p, vs, e, n0, n, hp, z, r⟩ => ⟨p, vs, e, n0, f.out hp n, f.keep p _ hp n, z, r.fw f.toGr⟩
/-- an earlier beginning -/
theorem RepW.back {K : PySem.W.Frag} {μ0 μ1 μ : List Addr} {H0 H1 H : AHp} (f : Fw K μ0 H0 μ1 H1) (mu : ∀ a, a ∈ μ1 → a ∈ μ) : ∀ {w : W} {v : V}, RepW K H1 μ H w v → RepW K H0 μ H w v
  | .val d, v, h => h
  | .new ds, v, ⟨p, vs, e, n0, n, hp, z, r⟩ => by
    have h0 : H0 p = none := by
      by_cases m : p ∈ μ0
      · exact absurd (mu p (f.mem m)) n
      · cases q : H0 p with
        | none => rfl
        | some o =>
          rw [f.keep p o q m] at n0
          cases n0
    exact ⟨p, vs, e, h0, n, hp, z, r⟩
/-- the new list gets a name -/
def settle (w : W) (st : Sto) : D × Sto := match w with
  | .val d => (d, st)
  | .new ds => (.ref st.length, st ++ [.lst ds])
theorem settle_ok {K : PySem.W.Frag} {μ0 μ : List Addr} {H0 H : AHp} {st : Sto} {w : W} {v : V} (f : Fw K μ0 H0 μ H) (S : StoOk K μ st H) (r : RepW K H0 μ H w v) :
    ∃ μ', Fw K μ0 H0 μ' H ∧ Gr K μ H μ' H ∧ StoOk K μ' (settle w st).2 H ∧ Rep K μ' H (settle w st).1 v := by
  cases w with
  | val d => exact ⟨μ, f, ⟨fun _ _ h => h, fun _ _ h => h, fun _ _ _ h => h⟩, S, r⟩
  | new ds =>
    obtain ⟨p, vs, rfl, n0, n, hp, z, rr⟩ := r
    exact ⟨μ ++ [p], f.named n0, Gr.name, S.name n ⟨vs, hp, z, rr⟩, .ref (by rw [← S.len]; simp)⟩
end Nx

end

section
set_option maxHeartbeats 1000000
/-! Nx2: the small language and what it computes. -/
namespace Nx
open PySem PySem.Spec PyProof.Rows L2

/-! ### what values are -/
def listOf (st : Sto) : W → Option (List D)
  | .new ds => some ds
  | .val (.ref l) => match st[l]? with
    | some (.lst ds) => some ds
    | _ => none
  | .val (.lis ds) => some ds
  | _ => none
/-- a list that is no frozen one -/
def lstOf (st : Sto) : W → Option (List D)
  | .new ds => some ds
  | .val (.ref l) => match st[l]? with
    | some (.lst ds) => some ds
    | _ => none
  | _ => none
def seqOf (st : Sto) : W → Option (List D)
  | .val (.tup ds) => some ds
  | w => listOf st w
def truth (st : Sto) : W → Option Bool
  | .val .non => some false
  | .val (.bl b) => some b
  | .val (.int i) => some (i != 0)
  | .val (.str s) => some (s.length != 0)
  | .val (.tup ds) => some (!ds.isEmpty)
  | .new ds => some (!ds.isEmpty)
  | .val (.lis ds) => some (!ds.isEmpty)
  | .val (.ref l) => match st[l]? with
    | some (.lst ds) => some (!ds.isEmpty)
    | some (.dct kvs) => some (!kvs.isEmpty)
    | none => none
def toPy (st : Sto) : Nat → D → Option PyData
  | _, .non => some .none
  | _, .bl b => some (.bool b)
  | _, .int i => some (.int i)
  | _, .str s => if PyData.strOk s = true then some (.str s) else none
  | n + 1, .tup ds => (ds.mapM (toPy st n)).map .tuple
  | n + 1, .ref l => match st[l]? with
    | some (.lst ds) => (ds.mapM (toPy st n)).map .list
    | _ => none
  | n + 1, .lis ds => (ds.mapM (toPy st n)).map .list
  | 0, .lis _ => none
  | 0, .tup _ => none
  | 0, .ref _ => none
def toPyW (st : Sto) : W → Option PyData
  | .val d => toPy st 60 d
  | .new ds => (ds.mapM (toPy st 60)).map .list
def eqD (st : Sto) (x y : W) : Option Bool := match x, y with
  | .val (.str s), .val (.str t) => some (decide (s = t))
  | x, y => match toPyW st x, toPyW st y with
    | some p, some q => some (PyData.eqv p q)
    | _, _ => none
def tyName (st : Sto) : W → Option String
  | .val .non => some "NoneType"
  | .val (.bl _) => some "bool"
  | .val (.int _) => some "int"
  | .val (.str _) => some "str"
  | .val (.tup _) => some "tuple"
  | .new _ => some "list"
  | .val (.lis _) => some "list"
  | .val (.ref l) => match st[l]? with
    | some (.lst _) => some "list"
    | some (.dct _) => some "dict"
    | none => none
def keyOf : D → Option L2.Key
  | .int i => some (.inl i)
  | .str s => some (.inr s)
  | _ => none
def flatD : D → Bool
  | .non => true | .bl _ => true | .int _ => true | .str _ => true
  | .tup _ => false | .ref _ => false | .lis _ => false
/-- == of flat values -/
def eqF : D → D → Bool
  | .non, .non => true
  | .bl a, .bl b => a == b
  | .bl a, .int j => (if a then 1 else 0) == j
  | .int i, .bl b => i == (if b then 1 else 0)
  | .int i, .int j => i == j
  | .str x, .str y => x == y
  | _, _ => false
def boolsOf : List D → Option (List Bool)
  | [] => some []
  | .bl b :: r => (boolsOf r).map (b :: ·)
  | _ => none
def intsOf : List D → Option (List Int)
  | [] => some []
  | .int b :: r => (intsOf r).map (b :: ·)
  | _ => none
def strsOf : List D → Option (List Str)
  | [] => some []
  | .str b :: r => (strsOf r).map (b :: ·)
  | _ => none

/-! ### operations -/
inductive P1 where
  | isT (T : String) | len | abs | int | repr | all | any | sum | tuple | list | maxL | minL | neg | not | rev
  deriving DecidableEq
inductive P2 where
  | add | sub | mul | fdiv | mod | pow | eq | ne | lt | le | gt | ge | inn | nin | is | isn | idx | divmod | max2 | min2 | append | extend | update | join
  deriving DecidableEq
inductive P3 where
  | slice (lo hi : Bool) | get
  deriving DecidableEq

abbrev V1 := Option (W × Sto)
def vD (d : D) (st : Sto) : V1 := some (.val d, st)
def vB (b : Bool) (st : Sto) : V1 := some (.val (.bl b), st)
def vI (i : Int) (st : Sto) : V1 := some (.val (.int i), st)
def mulOk (i j : Int) : Bool := decide (i.natAbs.log2 + j.natAbs.log2 < 1000000)
/-- the class test -/
def isTy (a T : String) : Option Bool := kitB a T
def op1 (o : P1) (x : W) (st : Sto) : V1 := match o with
  | .isT T => match tyName st x with
    | some a => match isTy a T with
      | some b => vB b st
      | none => none
    | none => none
  | .len => match x with
    | .val (.str s) => vI s.length st
    | .val (.ref l) => match st[l]? with
      | some (.lst ds) => vI ds.length st
      | some (.dct ds) => vI ds.length st
      | none => none
    | .val (.tup ds) => vI ds.length st
    | .new ds => vI ds.length st
    | .val (.lis ds) => vI ds.length st
    | _ => none
  | .abs => match x with
    | .val (.int i) => vI (if i < 0 then -i else i) st
    | _ => none
  | .int => match x with
    | .val (.int i) => vI i st
    | .val (.bl b) => vI (if b then 1 else 0) st
    | _ => none
  | .neg => match x with
    | .val (.int i) => vI (-i) st
    | _ => none
  | .not => match truth st x with
    | some b => vB (!b) st
    | none => none
  | .repr => match toPyW st x with
    | some p => if p.showable = true ∧ p.shown.length ≤ sizeLine then vD (.str p.shown) st else none
    | none => none
  | .all => match (listOf st x).bind boolsOf with
    | some bs => vB (bs.all id) st
    | none => none
  | .any => match (listOf st x).bind boolsOf with
    | some bs => vB (bs.any id) st
    | none => none
  | .sum => match (listOf st x).bind intsOf with
    | some ns => vI ns.sum st
    | none => none
  | .tuple => match seqOf st x with
    | some ds => vD (.tup ds) st
    | none => none
  | .list => match seqOf st x with
    | some ds => some (.new ds, st)
    | none => none
  | .maxL => match (listOf st x).bind intsOf with
    | some (n :: ns) => vI (ns.foldl max n) st
    | _ => none
  | .minL => match (listOf st x).bind intsOf with
    | some (n :: ns) => vI (ns.foldl min n) st
    | _ => none
  | .rev => match x with
    | .val (.tup ds) => vD (.tup ds.reverse) st
    | x => match listOf st x with
      | some ds => some (.new ds.reverse, st)
      | none => none
def cutD (xs : List D) (lo hi : Option Int) : List D := (xs.drop (HT.sIx xs.length 0 lo)).take (HT.sIx xs.length xs.length hi - HT.sIx xs.length 0 lo)
def putKD (kvs : List (L2.Key × D)) (k : L2.Key) (d : D) : List (L2.Key × D) :=
  if (kvs.any fun kv => decide (kv.1 = k)) = true then kvs.map (fun kv => if kv.1 = k then (kv.1, d) else kv) else kvs ++ [(k, d)]
def getKD (kvs : List (L2.Key × D)) (k : L2.Key) : Option D := (kvs.find? fun kv => decide (kv.1 = k)).map (·.2)
def mergeKD (kvs more : List (L2.Key × D)) : List (L2.Key × D) := more.foldl (fun r p => putKD r p.1 p.2) kvs
def sameRef (l : Nat) : W → Bool
  | .val (.ref m) => l == m
  | _ => false
def op2 (o : P2) (x y : W) (st : Sto) : V1 := match o with
  | .add => match x, y with
    | .val (.int i), .val (.int j) => vI (i + j) st
    | .val (.str s), .val (.str t) => if s.length + t.length ≤ sizeLine then vD (.str (s ++ t)) st else none
    | .val (.tup ds), .val (.tup es) => if ds.length + es.length ≤ sizeLine then vD (.tup (ds ++ es)) st else none
    | x, y => match lstOf st x, lstOf st y with
      | some ds, some es => if ds.length + es.length ≤ sizeLine then some (.new (ds ++ es), st) else none
      | _, _ => none
  | .sub => match x, y with
    | .val (.int i), .val (.int j) => vI (i - j) st
    | _, _ => none
  | .mul => match x, y with
    | .val (.int i), .val (.int j) => if mulOk i j then vI (i * j) st else none
    | .val (.tup ds), .val (.int k) => if (ds.isEmpty = false) ∧ 2 ≤ k ∧ k ≤ 1000 ∧ ds.length ≤ 1000 then vD (.tup (List.replicate k.toNat ds).flatten) st else none
    | x, .val (.int k) => match lstOf st x with
      | some ds => if -1000000 < k ∧ k < 1000000 ∧ ds.length * k.toNat ≤ sizeLine then some (.new (List.replicate k.toNat ds).flatten, st) else none
      | none => none
    | _, _ => none
  | .fdiv => match x, y with
    | .val (.int i), .val (.int j) => if 0 < j ∧ j.natAbs.log2 < 9000 then vI (i / j) st else none
    | _, _ => none
  | .mod => match x, y with
    | .val (.int i), .val (.int j) => if 0 < j then vI (i % j) st else none
    | _, _ => none
  | .pow => match x, y with
    | .val (.int i), .val (.int j) => if 0 ≤ j ∧ j ≤ 1000000 ∧ i.natAbs < 2 ^ 64 then vI (i ^ j.toNat) st else none
    | _, _ => none
  | .eq => match eqD st x y with
    | some b => vB b st
    | none => none
  | .ne => match eqD st x y with
    | some b => vB (!b) st
    | none => none
  | .lt => match x, y with
    | .val (.int i), .val (.int j) => vB (decide (i < j)) st
    | .val (.str i), .val (.str j) => vB (decide (i.cps.toList < j.cps.toList)) st
    | _, _ => none
  | .le => match x, y with
    | .val (.int i), .val (.int j) => vB (decide (i ≤ j)) st
    | .val (.str i), .val (.str j) => vB (!decide (j.cps.toList < i.cps.toList)) st
    | _, _ => none
  | .gt => match x, y with
    | .val (.int i), .val (.int j) => vB (decide (j < i)) st
    | _, _ => none
  | .ge => match x, y with
    | .val (.int i), .val (.int j) => vB (decide (j ≤ i)) st
    | _, _ => none
  | .inn => match x, y with
    | .val (.str s), .val (.str z) => if s.length = 1 then vB (decide (s.cps.getD 0 0 ∈ z.cps.toList)) st else none
    | .val d, y => match y with
      | .val (.ref l) => match st[l]? with
        | some (.dct kvs) => match keyOf d with
          | some k => vB (getKD kvs k).isSome st
          | none => none
        | some (.lst ds) => if flatD d ∧ ds.all flatD then vB (ds.any fun e => eqF e d) st else none
        | none => none
      | .val (.tup ds) => if flatD d ∧ ds.all flatD then vB (ds.any fun e => eqF e d) st else none
      | .new ds => if flatD d ∧ ds.all flatD then vB (ds.any fun e => eqF e d) st else none
      | _ => none
    | _, _ => none
  | .nin => match x, y with
    | .val (.str s), .val (.str z) => if s.length = 1 then vB (!decide (s.cps.getD 0 0 ∈ z.cps.toList)) st else none
    | .val d, y => match y with
      | .val (.ref l) => match st[l]? with
        | some (.dct kvs) => match keyOf d with
          | some k => vB (!(getKD kvs k).isSome) st
          | none => none
        | some (.lst ds) => if flatD d ∧ ds.all flatD then vB (!(ds.any fun e => eqF e d)) st else none
        | none => none
      | .val (.tup ds) => if flatD d ∧ ds.all flatD then vB (!(ds.any fun e => eqF e d)) st else none
      | .new ds => if flatD d ∧ ds.all flatD then vB (!(ds.any fun e => eqF e d)) st else none
      | _ => none
    | _, _ => none
  | .is => match x, y with
    | .val .non, .val .non => vB true st
    | .val _, .val .non => vB false st
    | .new _, .val .non => vB false st
    | .val (.bl a), .val (.bl b) => vB (decide (a = b)) st
    | _, _ => none
  | .isn => match x, y with
    | .val .non, .val .non => vB false st
    | .val _, .val .non => vB true st
    | .new _, .val .non => vB true st
    | .val (.bl a), .val (.bl b) => vB (!decide (a = b)) st
    | _, _ => none
  | .idx => match x, y with
    | .val (.str s), .val (.int i) => match atI s.cps.toList i with
      | some c => vD (.str ⟨#[c]⟩) st
      | none => none
    | .val (.ref l), y => match st[l]?, y with
      | some (.dct kvs), .val d => match keyOf d with
        | some k => match getKD kvs k with
          | some e => vD e st
          | none => none
        | none => none
      | some (.lst ds), .val (.int i) => match atI ds i with
        | some d => vD d st
        | none => none
      | _, _ => none
    | .val (.tup ds), .val (.int i) => match atI ds i with
      | some d => vD d st
      | none => none
    | .new ds, .val (.int i) => match atI ds i with
      | some d => vD d st
      | none => none
    | .val (.lis ds), .val (.int i) => match atI ds i with
      | some d => vD d st
      | none => none
    | _, _ => none
  | .divmod => match x, y with
    | .val (.int i), .val (.int j) => if 0 < j ∧ j < 1073741824 then vD (.tup [.int (i / j), .int (i % j)]) st else none
    | _, _ => none
  | .max2 => match x, y with
    | .val (.int i), .val (.int j) => vI (if j > i then j else i) st
    | _, _ => none
  | .min2 => match x, y with
    | .val (.int i), .val (.int j) => vI (if j < i then j else i) st
    | _, _ => none
  | .append => match x with
    | .val (.ref l) => match st[l]? with
      | some (.lst ds) => if ds.length < sizeLine then
          let p := settle y st
          some (.val .non, p.2.set l (.lst (ds ++ [p.1]))) else none
      | _ => none
    | _ => none
  | .extend => match x with
    | .val (.ref l) => match st[l]?, lstOf st y with
      | some (.lst ds), some es => if ds.length + es.length ≤ sizeLine ∧ sameRef l y = false then some (.val .non, st.set l (.lst (ds ++ es))) else none
      | _, _ => none
    | _ => none
  | .update => match x, y with
    | .val (.ref l), .val (.ref m) => match st[l]?, st[m]? with
      | some (.dct ds), some (.dct es) => if ds.length + es.length ≤ 1000 ∧ l ≠ m then some (.val .non, st.set l (.dct (mergeKD ds es))) else none
      | _, _ => none
    | _, _ => none
  | .join => match x with
    | .val (.str s) => match (listOf st y).bind strsOf with
      | some xs => if (xs.map (·.length)).sum + xs.length * s.length ≤ 16777216 ∧ (Txt.join s xs).length ≤ sizeLine then vD (.str (Txt.join s xs)) st else none
      | none => none
    | _ => none
def partOf (has : Bool) : W → Option (Option Int)
  | .val (.int i) => if has then some (some i) else none
  | .val .non => if has then none else some none
  | _ => none
def op3 (o : P3) (x y z : W) (st : Sto) : V1 := match o with
  | .slice lo hi => match partOf lo y, partOf hi z with
    | some l, some h => match x with
      | .val (.tup ds) => vD (.tup (cutD ds l h)) st
      | x => match listOf st x with
        | some ds => some (.new (cutD ds l h), st)
        | none => none
    | _, _ => none
  | .get => match x with
    | .val (.ref l) => match st[l]?, y with
      | some (.dct kvs), .val d => match keyOf d with
        | some k => match getKD kvs k with
          | some e => vD e st
          | none => some (z, st)
        | none => none
      | _, _ => none
    | _ => none

/-! ### the language -/
/-- a method's receiver -/
inductive Rc where
  | l | d | s
  deriving DecidableEq
def rcOk (r : Rc) (x : W) (st : Sto) : Bool := match r, x with
  | .l, .val (.ref l) => match st[l]? with
    | some (.lst _) => true
    | _ => false
  | .d, .val (.ref l) => match st[l]? with
    | some (.dct _) => true
    | _ => false
  | .s, .val (.str _) => true
  | _, _ => false
inductive Tg where
  | n (i : Nat) | t (is : List Nat)
  deriving DecidableEq
inductive C where
  | k (d : D) | v (i : Nat) | stuck
  | p1 (o : P1) (a : C) | p2 (o : P2) (a b : C) | p3 (o : P3) (a b c : C)
  | m1 (ty : Rc) (o : P2) (a b : C) | m2 (ty : Rc) (o : P3) (a b c : C)
  | and (a b : C) | or (a b : C) | ite (c a b : C) | chain (o o' : P2) (a b c : C)
  | tup (as : List C) | lst (as : List C) | dict (as : List C)
  | call (f : Nat) (as : List C) (perm : List Nat)
  | comp (kind : Nat) (as : List C) (tg : Tg) (cond elt : C)
inductive S where
  | asg (i : Nat) (e : C) | asgT (is : List Nat) (e : C) | asgP (is : List Nat) (es : List C)
  | asgS (o i e : C) | asgST (o i : C) (j : Nat) (e : C)
  | ex (e : C) | ret (e : C) | retN | ite (c : C) (a b : List S)
  | for_ (kind : Nat) (as : List C) (tg : Tg) (b : List S) | wh (c : C) (b : List S) | brk | cont | pass | stuck

abbrev Rho := List (Option D)
def bindTg (tg : Tg) (d : D) (ρ : Rho) : Option Rho := match tg with
  | .n i => some (ρ.set i (some d))
  | .t is => match d with
    | .tup ds => if ds.length = is.length then some ((is.zip ds).foldl (fun r p => r.set p.1 (some p.2)) ρ) else none
    | _ => none
/-- the places of the call's arguments -/
def permute (perm : List Nat) (ds : List D) : Option (List D) := perm.mapM fun i => ds[i]?
def rangeD (lo hi : Int) : List D := (List.range (hi - lo).toNat).map fun i => .int (lo + (i : Nat))
def signsD (s : Str) : List D := s.cps.toList.map fun c => .str ⟨#[c]⟩
/-- what a walk goes over: its items; the things of the store that must stand meanwhile -/
abbrev Walked := List D × List (Nat × List D)
def walkOf (kind : Nat) (ws : List W) (st : Sto) : Option Walked := match kind, ws with
  | 0, [w] => match w with
    | .val (.str s) => some (signsD s, [])
    | .val (.tup ds) => some (ds, [])
    | .new ds => some (ds, [])
    | .val (.ref l) => match st[l]? with
      | some (.lst ds) => some (ds, [(l, ds)])
      | _ => none
    | .val (.lis ds) => some (ds, [])
    | _ => none
  | 1, [.val (.tup ds), .val (.tup es)] => some (List.zipWith (fun a b => .tup [a, b]) ds es, [])
  | 1, [a, b] => match listOf st a, listOf st b with
    | some ds, some es => some (List.zipWith (fun a b => .tup [a, b]) ds es, (match a with | .val (.ref l) => [(l, ds)] | _ => []) ++ (match b with | .val (.ref l) => [(l, es)] | _ => []))
    | _, _ => none
  | 2, [a] => match listOf st a with
    | some ds => some ((List.range ds.length).zipWith (fun i d => .tup [.int (i : Nat), d]) ds, match a with | .val (.ref l) => [(l, ds)] | _ => [])
    | none => none
  | 3, [.val (.int n)] => if n < 1000000 ∧ -1000000 < n then some (rangeD 0 n, []) else none
  | 3, [.val (.int m), .val (.int n)] => if n < 1000000 ∧ -1000000 < n ∧ m < 1000000 ∧ -1000000 < m then some (rangeD m n, []) else none
  | _, _ => none
/-- a list of the store stands as it was -/
def stands (g : List (Nat × List D)) (st : Sto) : Prop := ∀ p ∈ g, listOf st (.val (.ref p.1)) = some p.2
def compLoop (f : D → Sto → Option (Option D × Sto)) (g : Sto → Bool) : List D → Sto → Option (List D × Sto)
  | [], st => if g st then some ([], st) else none
  | d :: ds, st => if g st then match f d st with
    | some (some e, s1) => match compLoop f g ds s1 with
      | some (es, s2) => if es.length < sizeLine then some (e :: es, s2) else none
      | none => none
    | some (none, s1) => compLoop f g ds s1
    | none => none
    else none
mutual
def eqDs : D → D → Bool
  | .non, .non => true
  | .bl a, .bl b => a == b
  | .int a, .int b => a == b
  | .str a, .str b => a == b
  | .tup a, .tup b => eqDl a b
  | .ref a, .ref b => a == b
  | .lis a, .lis b => eqDl a b
  | _, _ => false
def eqDl : List D → List D → Bool
  | [], [] => true
  | a :: as, b :: bs => eqDs a b && eqDl as bs
  | _, _ => false
end
def guardB (g : List (Nat × List D)) (st : Sto) : Bool := g.all fun p => match listOf st (.val (.ref p.1)) with
  | some ds => eqDl ds p.2
  | none => false
abbrev Calls := Nat → List D → Sto → Option (D × Sto)
mutual
def evW (T : Calls) : C → Rho → Sto → V1
  | .k d, _, st => vD d st
  | .v i, ρ, st => match ρ[i]? with
    | some (some d) => vD d st
    | _ => none
  | .stuck, _, _ => none
  | .p1 o a, ρ, st => match evW T a ρ st with
    | some (x, s1) => op1 o x s1
    | none => none
  | .p2 o a b, ρ, st => match evW T a ρ st with
    | some (x, s1) => match evW T b ρ s1 with
      | some (y, s2) => op2 o x y s2
      | none => none
    | none => none
  | .p3 o a b c, ρ, st => match evW T a ρ st with
    | some (x, s1) => match evW T b ρ s1 with
      | some (y, s2) => match evW T c ρ s2 with
        | some (z, s3) => op3 o x y z s3
        | none => none
      | none => none
    | none => none
  | .m1 r o a b, ρ, st => match evW T a ρ st with
    | some (x, s1) => if rcOk r x s1 = true then match evW T b ρ s1 with
      | some (y, s2) => op2 o x y s2
      | none => none
      else none
    | none => none
  | .m2 r o a b c, ρ, st => match evW T a ρ st with
    | some (x, s1) => if rcOk r x s1 = true then match evW T b ρ s1 with
      | some (y, s2) => match evW T c ρ s2 with
        | some (z, s3) => op3 o x y z s3
        | none => none
      | none => none
      else none
    | none => none
  | .and a b, ρ, st => match evW T a ρ st with
    | some (x, s1) => match truth s1 x with
      | some true => evW T b ρ s1
      | some false => some (x, s1)
      | none => none
    | none => none
  | .or a b, ρ, st => match evW T a ρ st with
    | some (x, s1) => match truth s1 x with
      | some false => evW T b ρ s1
      | some true => some (x, s1)
      | none => none
    | none => none
  | .ite c a b, ρ, st => match evW T c ρ st with
    | some (x, s1) => match truth s1 x with
      | some true => evW T a ρ s1
      | some false => evW T b ρ s1
      | none => none
    | none => none
  | .chain o o' a b c, ρ, st => match evW T a ρ st with
    | some (.val x, s1) => match evW T b ρ s1 with
      | some (.val y, s2) => match op2 o (.val x) (.val y) s2 with
        | some (.val (.bl true), s3) => match evW T c ρ s3 with
          | some (z, s4) => op2 o' (.val y) z s4
          | none => none
        | some (.val (.bl false), s3) => vB false s3
        | _ => none
      | _ => none
    | _ => none
  | .tup as, ρ, st => match evA T as ρ st with
    | some (ds, s1) => if ds.length ≤ sizeLine then vD (.tup ds) s1 else none
    | none => none
  | .lst as, ρ, st => match evA T as ρ st with
    | some (ds, s1) => if ds.length ≤ sizeLine then some (.new ds, s1) else none
    | none => none
  | .dict as, ρ, st => match evA2 T as ρ st with
    | some (kvs, s1) => if kvs.length ≤ 15 then vD (.ref s1.length) (s1 ++ [.dct (mergeKD [] kvs)]) else none
    | none => none
  | .call f as perm, ρ, st => match evA T as ρ st with
    | some (ds, s1) => match permute perm ds with
      | some es => match T f es s1 with
        | some (d, s2) => vD d s2
        | none => none
      | none => none
    | none => none
  | .comp kind as tg c e, ρ, st => match evI T as ρ st with
    | some (ws, s1) => match walkOf kind ws s1 with
      | some (items, g) => match compLoop (fun d s => match bindTg tg d ρ with
          | some ρ1 => match evW T c ρ1 s with
            | some (x, s2) => match truth s2 x with
              | some true => match evW T e ρ1 s2 with
                | some (y, s3) => let p := settle y s3; some (some p.1, p.2)
                | none => none
              | some false => some (none, s2)
              | none => none
            | none => none
          | none => none) (guardB g) items s1 with
        | some (es, s4) => some (.new es, s4)
        | none => none
      | none => none
    | none => none
/-- arguments, each with a name -/
def evA (T : Calls) : List C → Rho → Sto → Option (List D × Sto)
  | [], _, st => some ([], st)
  | a :: as, ρ, st => match evW T a ρ st with
    | some (x, s1) => match evA T as ρ (settle x s1).2 with
      | some (ds, s2) => some ((settle x s1).1 :: ds, s2)
      | none => none
    | none => none
/-- what a walk is asked of: no names given -/
def evI (T : Calls) : List C → Rho → Sto → Option (List W × Sto)
  | [], _, st => some ([], st)
  | a :: as, ρ, st => match evW T a ρ st with
    | some (x, s1) => match evI T as ρ s1 with
      | some (ds, s2) => some (x :: ds, s2)
      | none => none
    | none => none
/-- a display's pairs, in the sequence of the text -/
def evA2 (T : Calls) : List C → Rho → Sto → Option (List (L2.Key × D) × Sto)
  | [], _, st => some ([], st)
  | [_], _, _ => none
  | k :: v :: r, ρ, st => match evW T k ρ st with
    | some (.val x, s1) => match keyOf x with
      | some j => match evW T v ρ s1 with
        | some (y, s2) => match evA2 T r ρ (settle y s2).2 with
          | some (r, s3) => some ((j, (settle y s2).1) :: r, s3)
          | none => none
        | none => none
      | none => none
    | _ => none
end
inductive Fl where
  | nx | rt (d : D) | bk | ct
abbrev V2 := Option (Fl × Rho × Sto)
def forLoop (f : D → Rho → Sto → V2) (g : Sto → Bool) : List D → Rho → Sto → V2
  | [], ρ, st => if g st then some (.nx, ρ, st) else none
  | d :: ds, ρ, st => if g st then match f d ρ st with
    | some (.nx, ρ1, s1) => forLoop f g ds ρ1 s1
    | some (.ct, ρ1, s1) => forLoop f g ds ρ1 s1
    | some (.bk, ρ1, s1) => some (.nx, ρ1, s1)
    | some (.rt d, ρ1, s1) => some (.rt d, ρ1, s1)
    | none => none
    else none
def whLoop (c : Rho → Sto → Option (Bool × Sto)) (f : Rho → Sto → V2) : Nat → Rho → Sto → V2
  | 0, _, _ => none
  | n + 1, ρ, st => match c ρ st with
    | some (true, s0) => match f ρ s0 with
      | some (.nx, ρ1, s1) => whLoop c f n ρ1 s1
      | some (.ct, ρ1, s1) => whLoop c f n ρ1 s1
      | some (.bk, ρ1, s1) => some (.nx, ρ1, s1)
      | some (.rt d, ρ1, s1) => some (.rt d, ρ1, s1)
      | none => none
    | some (false, s0) => some (.nx, ρ, s0)
    | none => none
/-- o[i] = e -/
def setIdx (o i : W) (d : D) (st : Sto) : Option Sto := match o with
  | .val (.ref l) => match st[l]?, i with
    | some (.lst ds), .val (.int k) => match ixN ds.length k with
      | some j => some (st.set l (.lst (ds.set j d)))
      | none => none
    | some (.dct kvs), .val k => match keyOf k with
      | some k => if kvs.length < 1000 then some (st.set l (.dct (putKD kvs k d))) else none
      | none => none
    | _, _ => none
  | _ => none
/-- how often a while may go round -/
def rounds : Nat := 1000000
mutual
def exS (T : Calls) : S → Rho → Sto → V2
  | .asg i e, ρ, st => match evW T e ρ st with
    | some (x, s1) => some (.nx, ρ.set i (some (settle x s1).1), (settle x s1).2)
    | none => none
  | .asgT is e, ρ, st => match evW T e ρ st with
    | some (.val d, s1) => match bindTg (.t is) d ρ with
      | some ρ1 => some (.nx, ρ1, s1)
      | none => none
    | _ => none
  | .asgP is es, ρ, st => match evA T es ρ st with
    | some (ds, s1) => if ds.length = is.length then some (.nx, (is.zip ds).foldl (fun r p => r.set p.1 (some p.2)) ρ, s1) else none
    | none => none
  | .asgS o i e, ρ, st => match evW T e ρ st with
    | some (x, s1) => match evW T o ρ (settle x s1).2 with
      | some (y, s2) => match evW T i ρ s2 with
        | some (z, s3) => match setIdx y z (settle x s1).1 s3 with
          | some s4 => some (.nx, ρ, s4)
          | none => none
        | none => none
      | none => none
    | none => none
  | .asgST o i j e, ρ, st => match evW T e ρ st with
    | some (.val (.tup [a, b]), s1) => match evW T o ρ s1 with
      | some (y, s2) => match evW T i ρ s2 with
        | some (z, s3) => match setIdx y z a s3 with
          | some s4 => some (.nx, ρ.set j (some b), s4)
          | none => none
        | none => none
      | none => none
    | _ => none
  | .ex e, ρ, st => match evW T e ρ st with
    | some (_, s1) => some (.nx, ρ, s1)
    | none => none
  | .ret e, ρ, st => match evW T e ρ st with
    | some (x, s1) => some (.rt (settle x s1).1, ρ, (settle x s1).2)
    | none => none
  | .retN, ρ, st => some (.rt .non, ρ, st)
  | .ite c a b, ρ, st => match evW T c ρ st with
    | some (x, s1) => match truth s1 x with
      | some true => exB T a ρ s1
      | some false => exB T b ρ s1
      | none => none
    | none => none
  | .for_ kind as tg b, ρ, st => match evI T as ρ st with
    | some (ws, s1) => match walkOf kind ws s1 with
      | some (items, g) => forLoop (fun d r s => match bindTg tg d r with
        | some r1 => exB T b r1 s
        | none => none) (guardB g) items ρ s1
      | none => none
    | none => none
  | .wh c b, ρ, st => whLoop (fun r s => match evW T c r s with
      | some (x, s1) => match truth s1 x with
        | some b => some (b, s1)
        | none => none
      | none => none) (fun r s => exB T b r s) rounds ρ st
  | .brk, ρ, st => some (.bk, ρ, st)
  | .cont, ρ, st => some (.ct, ρ, st)
  | .pass, ρ, st => some (.nx, ρ, st)
  | .stuck, _, _ => none
def exB (T : Calls) : List S → Rho → Sto → V2
  | [], ρ, st => some (.nx, ρ, st)
  | s :: ss, ρ, st => match exS T s ρ st with
    | some (.nx, ρ1, s1) => exB T ss ρ1 s1
    | r => r
end
/-- a def: how many parameters, how many names, its body -/
structure Fn where
  np : Nat
  ns : Nat
  body : List S
def evF (tab : Nat → Option Fn) : Nat → Calls
  | 0, _, _, _ => none
  | k + 1, f, ds, st => match tab f with
    | some fn => if ds.length = fn.np then match exB (evF tab k) fn.body (ds.map some ++ List.replicate (fn.ns - fn.np) none) st with
      | some (.rt d, _, s1) => some (d, s1)
      | some (.nx, _, s1) => some (.non, s1)
      | _ => none
      else none
    | none => none
end Nx

end

section
set_option maxHeartbeats 1000000
/-! Nx3: what the operations of the small language mean to the layer's readings. -/
namespace Nx
open PySem PySem.Spec PyProof.Rows L2

section
variable {K : PySem.W.Frag} {μ μ0 : List Addr} {H H0 : AHp} {st : Sto}
/-- a list's content, and where it lies -/
theorem list_at {x : W} {v : V} {ds : List D} (S : StoOk K μ st H) (r : RepW K H0 μ H x v) (e : listOf st x = some ds) :
    ∃ p vs, v = .ref p ∧ SqL K H p vs ∧ vs.length ≤ sizeLine ∧ RepL K μ H ds vs := by
  cases x with
  | new es =>
    simp only [listOf, Option.some.injEq] at e
    subst e
    obtain ⟨p, vs, e, _, _, hp, z, q⟩ := r
    exact ⟨p, vs, e, Or.inl (Or.inl hp), z, q⟩
  | val d =>
    cases d with
    | ref l =>
      cases (show Rep K μ H (.ref l) v from r) with
      | ref hl =>
        obtain ⟨o, ho, q⟩ := S.at hl
        simp only [listOf, ho] at e
        cases o with
        | lst es =>
          simp only [Option.some.injEq] at e
          subst e
          obtain ⟨vs, h1, z, h2⟩ := q
          exact ⟨_, vs, rfl, Or.inl (Or.inl h1), z, h2⟩
        | dct es => simp at e
    | lis es =>
      simp only [listOf, Option.some.injEq] at e
      subst e
      cases (show Rep K μ H (.lis es) v from r) with
      | lis t q => exact ⟨_, _, rfl, t.sq, t.1, q⟩
    | _ => simp [listOf] at e
theorem lst_at {x : W} {v : V} {ds : List D} (S : StoOk K μ st H) (r : RepW K H0 μ H x v) (e : lstOf st x = some ds) :
    ∃ p vs, v = .ref p ∧ H p = some (.lst vs) ∧ vs.length ≤ sizeLine ∧ RepL K μ H ds vs := by
  cases x with
  | new es =>
    simp only [lstOf, Option.some.injEq] at e
    subst e
    obtain ⟨p, vs, e, _, _, hp, z, q⟩ := r
    exact ⟨p, vs, e, hp, z, q⟩
  | val d =>
    cases d with
    | ref l =>
      cases (show Rep K μ H (.ref l) v from r) with
      | ref hl =>
        obtain ⟨o, ho, q⟩ := S.at hl
        simp only [lstOf, ho] at e
        cases o with
        | lst es =>
          simp only [Option.some.injEq] at e
          subst e
          obtain ⟨vs, h1, z, h2⟩ := q
          exact ⟨_, vs, rfl, h1, z, h2⟩
        | dct es => simp at e
    | _ => simp [lstOf] at e
theorem dct_at {l : Nat} {v : V} {kvs : List (L2.Key × D)} (S : StoOk K μ st H) (r : Rep K μ H (.ref l) v) (e : st[l]? = some (.dct kvs)) :
    ∃ a s, v = .ref a ∧ μ[l]? = some a ∧ H a = some (.dK s) ∧ s.length ≤ sizeLine ∧ RepKV K μ H kvs s := by
  cases r with
  | ref hl =>
    obtain ⟨s, h1, z, h2⟩ := S.obj _ _ _ hl e
    exact ⟨_, s, rfl, hl, h1, z, h2⟩
end

mutual
theorem dp_of {K : PySem.W.Frag} {μ : List Addr} {H : AHp} {st : Sto} (S : StoOk K μ st H) : ∀ (n : Nat) {d : D} {v : V} {p : PyData}, Rep K μ H d v → toPy st n d = some p → Dp K H v p ∧ p.canLay0 = true ∧ p.depth ≤ n
  | n, .non, _, p, r, e => by cases r; simp only [toPy, Option.some.injEq] at e; subst e; exact ⟨.non, rfl, Nat.zero_le _⟩
  | n, .bl b, _, p, r, e => by cases r; simp only [toPy, Option.some.injEq] at e; subst e; exact ⟨.bl b, rfl, Nat.zero_le _⟩
  | n, .int i, _, p, r, e => by cases r; simp only [toPy, Option.some.injEq] at e; subst e; exact ⟨.int i, rfl, Nat.zero_le _⟩
  | n, .str s, _, p, r, e => by
    cases r with
    | str _ z =>
      simp only [toPy] at e
      split at e
      · rename_i ok
        simp only [Option.some.injEq] at e
        subst e
        exact ⟨.str s, ok, Nat.zero_le _⟩
      · cases e
  | 0, .tup ds, _, p, r, e => by simp [toPy] at e
  | 0, .ref l, _, p, r, e => by simp [toPy] at e
  | n + 1, .tup ds, _, p, r, e => by
    cases r with
    | tup t rl =>
      simp only [toPy, Option.map_eq_some_iff] at e
      obtain ⟨ps, e1, rfl⟩ := e
      obtain ⟨h1, h2, h3⟩ := dpl_of S n rl e1
      exact ⟨.tup t.sq h1, by simpa [PyData.canLay0] using h2, by simpa [PyData.depth] using h3⟩
  | n + 1, .ref l, _, p, r, e => by
    cases r with
    | ref hl =>
      obtain ⟨o, ho, q⟩ := S.at hl
      simp only [toPy, ho] at e
      cases o with
      | lst es =>
        simp only [Option.map_eq_some_iff] at e
        obtain ⟨ps, e1, rfl⟩ := e
        obtain ⟨vs, g1, z, g2⟩ := q
        obtain ⟨h1, h2, h3⟩ := dpl_of S n g2 e1
        exact ⟨.lst (Or.inl (Or.inl g1)) h1, by simpa [PyData.canLay0] using h2, by simpa [PyData.depth] using h3⟩
      | dct es => simp at e
  | 0, .lis ds, _, p, r, e => by simp [toPy] at e
  | n + 1, .lis ds, _, p, r, e => by
    cases r with
    | lis t rl =>
      simp only [toPy, Option.map_eq_some_iff] at e
      obtain ⟨ps, e1, rfl⟩ := e
      obtain ⟨h1, h2, h3⟩ := dpl_of S n rl e1
      exact ⟨.lst t.sq h1, by simpa [PyData.canLay0] using h2, by simpa [PyData.depth] using h3⟩
termination_by n d => (n, sizeOf d)
theorem dpl_of {K : PySem.W.Frag} {μ : List Addr} {H : AHp} {st : Sto} (S : StoOk K μ st H) : ∀ (n : Nat) {ds : List D} {vs : List V} {ps : List PyData}, RepL K μ H ds vs → ds.mapM (toPy st n) = some ps → DpAll K H vs ps ∧ PyData.canLayAll0 ps = true ∧ PyData.depthAll ps ≤ n
  | n, [], _, ps, r, e => by cases r; simp at e; subst e; exact ⟨.nil, rfl, Nat.zero_le _⟩
  | n, d :: ds, _, ps, r, e => by
    cases r with
    | cons r t =>
      rw [List.mapM_cons] at e
      simp only [Option.bind_eq_bind, Option.bind_eq_some_iff, Option.pure_def, Option.some.injEq] at e
      obtain ⟨q, e1, qs, e2, rfl⟩ := e
      obtain ⟨h1, h2, h3⟩ := dp_of S n r e1
      obtain ⟨g1, g2, g3⟩ := dpl_of S n t e2
      exact ⟨.cons h1 g1, by simp [PyData.canLayAll0, h2, g2], by simp [PyData.depthAll]; omega⟩
termination_by n ds => (n, sizeOf ds)
end
theorem dpw_of {K : PySem.W.Frag} {μ : List Addr} {H H0 : AHp} {st : Sto} (S : StoOk K μ st H) {x : W} {v : V} {p : PyData} (r : RepW K H0 μ H x v) (e : toPyW st x = some p) : Dp K H v p ∧ SeqAt.shaped p = true := by
  have fin : ∀ {q : PyData}, q.canLay0 = true → q.depth ≤ 61 → SeqAt.shaped q = true := fun h1 h2 => by
    unfold SeqAt.shaped
    rw [h1, Bool.true_and]
    exact decide_eq_true (by omega)
  cases x with
  | val d =>
    obtain ⟨h1, h2, h3⟩ := dp_of S 60 r e
    exact ⟨h1, fin h2 (by omega)⟩
  | new ds =>
    obtain ⟨a, vs, rfl, _, _, hp, z, q⟩ := r
    simp only [toPyW, Option.map_eq_some_iff] at e
    obtain ⟨ps, e1, rfl⟩ := e
    obtain ⟨h1, h2, h3⟩ := dpl_of S 60 q e1
    exact ⟨.lst (Or.inl (Or.inl hp)) h1, fin (by simpa [PyData.canLay0] using h2) (by simp [PyData.depth]; omega)⟩
end Nx

end

section
set_option maxHeartbeats 1000000
/-! Nx4: each operation of two values keeps its reading. -/
namespace Nx
open PySem PySem.Spec PyProof.Rows L2

/-- an operation's reading follows from what the small language computes -/
def K2 (K : PySem.W.Frag) (o : P2) (r : V → V → AHp → VK → Prop) : Prop :=
  ∀ (μ0 : List Addr) (H0 : AHp) (μ : List Addr) (H : AHp) (st : Sto) (x y : W) (u v : V) (w : W) (st' : Sto) (Q : VK), Fw K μ0 H0 μ H → StoOk K μ st H → RepW K H0 μ H x u → RepW K H0 μ H y v → op2 o x y st = some (w, st') →
    (∀ μ' H' z, Fw K μ0 H0 μ' H' → StoOk K μ' st' H' → RepW K H0 μ' H' w z → Q z H') → r u v H Q

section
variable {K : PySem.W.Frag} {μ0 μ : List Addr} {H0 H : AHp} {st : Sto}
/-- a new tuple -/
theorem new_tup {ds : List D} {vs : List V} {Q : VK} (f : Fw K μ0 H0 μ H) (S : StoOk K μ st H) (z : vs.length ≤ sizeLine) (r : RepL K μ H ds vs) (k : ∀ μ' H' z, Fw K μ0 H0 μ' H' → StoOk K μ' st H' → RepW K H0 μ' H' (.val (.tup ds)) z → Q z H') :
    ∀ p, H p = none → Q (.ref p) (upd H p (.tup vs)) := fun p hp =>
  k μ _ _ (f.trans (.fresh hp)) (S.fresh hp) (Rep.tup ⟨z, .inl upd_same⟩ (r.fw (Fw.fresh hp).toGr))
/-- a new list -/
theorem new_lst {ds : List D} {vs : List V} {Q : VK} (f : Fw K μ0 H0 μ H) (S : StoOk K μ st H) (z : vs.length ≤ sizeLine) (r : RepL K μ H ds vs) (k : ∀ μ' H' z, Fw K μ0 H0 μ' H' → StoOk K μ' st H' → RepW K H0 μ' H' (.new ds) z → Q z H') :
    ∀ p, H p = none → Q (.ref p) (upd H p (.lst vs)) := fun p h =>
  k μ _ _ (f.trans (.fresh h)) (S.fresh h) ⟨p, vs, rfl, (f.free S h).1, (f.free S h).2, upd_same, z, r.fw (Fw.fresh h).toGr⟩
end

/-- an answer that is a flat value -/
theorem vD_inj {d : D} {st st' : Sto} {w : W} (h : vD d st = some (w, st')) : w = .val d ∧ st' = st := by
  unfold vD at h
  cases h
  exact ⟨rfl, rfl⟩
theorem vB_inj {b : Bool} {st st' : Sto} {w : W} (h : vB b st = some (w, st')) : w = .val (.bl b) ∧ st' = st := vD_inj h
theorem vI_inj {b : Int} {st st' : Sto} {w : W} (h : vI b st = some (w, st')) : w = .val (.int b) ∧ st' = st := vD_inj h

section
variable {K : PySem.W.Frag}
abbrev rTwo (r r' : R2) : R2 := fun x y H Q => r x y H Q ∨ r' x y H Q
abbrev rStr2 : R2 := fun x y H Q => ∃ i j, x = .str i ∧ y = .str j ∧ i.length + j.length ≤ sizeLine ∧ Q (.str (i ++ j)) H
def rAddN (K : PySem.W.Frag) : R2 := rTwo (rI0 fun i j => .int (i + j)) (rTwo rStr2 (rTwo (rCatA K) rCat))
theorem str_len_append (s t : Str) : (s ++ t).length = s.length + t.length := by
  show (s.cps ++ t.cps).size = _
  rw [Array.size_append]
  rfl
theorem k2_add : K2 K .add (rAddN K) := by
  intro μ0 H0 μ H st x y u v w st' Q f S rx ry e k
  have lists : ∀ {ds es : List D}, lstOf st x = some ds → lstOf st y = some es → (if ds.length + es.length ≤ sizeLine then some (W.new (ds ++ es), st) else none) = some (w, st') → rAddN K u v H Q := by
    intro ds es h1 h2 h3
    by_cases hz : ds.length + es.length ≤ sizeLine
    · rw [if_pos hz] at h3
      cases h3
      obtain ⟨p, vs, rfl, g1, z1, r1⟩ := lst_at S rx h1
      obtain ⟨q, ws, rfl, g2, z2, r2⟩ := lst_at S ry h2
      have hz' : vs.length + ws.length ≤ sizeLine := by rw [← r1.length, ← r2.length]; exact hz
      exact .inr (.inr (.inr ⟨p, q, vs, ws, rfl, rfl, g1, g2, hz', new_lst f S (by rw [List.length_append]; exact hz') (r1.append r2) k⟩))
    · rw [if_neg hz] at h3
      cases h3
  have both : (match lstOf st x, lstOf st y with
      | some ds, some es => if ds.length + es.length ≤ sizeLine then some (W.new (ds ++ es), st) else none
      | _, _ => none) = some (w, st') → rAddN K u v H Q := fun h => by
    cases h1 : lstOf st x with
    | none => rw [h1] at h; simp at h
    | some ds =>
      cases h2 : lstOf st y with
      | none => rw [h1, h2] at h; simp at h
      | some es => rw [h1, h2] at h; exact lists h1 h2 h
  unfold op2 at e
  cases x with
  | new ds => exact both e
  | val d =>
    cases d with
    | int i =>
      cases y with
      | new es => exact both e
      | val d' =>
        cases d' with
        | int j =>
          obtain ⟨rfl, rfl⟩ := vI_inj e
          cases rx
          cases ry
          exact .inl ⟨i, j, rfl, rfl, k μ H _ f S (Rep.int _)⟩
        | _ => exact both e
    | str i =>
      cases y with
      | new es => exact both e
      | val d' =>
        cases d' with
        | str j =>
          cases rx with
          | str _ z1 =>
            cases ry with
            | str _ z2 =>
              by_cases hz : i.length + j.length ≤ sizeLine
              · simp only [if_pos hz] at e
                obtain ⟨rfl, rfl⟩ := vD_inj e
                exact .inr (.inl ⟨i, j, rfl, rfl, hz, k μ H _ f S (Rep.str _ (by rw [str_len_append]; exact hz))⟩)
              · simp only [if_neg hz] at e
                cases e
        | _ => exact both e
    | tup ds =>
      cases y with
      | new es => exact both e
      | val d' =>
        cases d' with
        | tup es =>
          cases rx with
          | tup t1 r1 =>
            cases ry with
            | tup t2 r2 =>
              by_cases hz : ds.length + es.length ≤ sizeLine
              · simp only [if_pos hz] at e
                obtain ⟨rfl, rfl⟩ := vD_inj e
                have hz' := hz
                rw [r1.length, r2.length] at hz'
                refine .inr (.inr (.inl ⟨_, _, _, _, rfl, rfl, t1.sq, t2.sq, hz', fun h => ?_, fun h1 h2 => ?_, fun h1 h2 => new_tup f S (by rw [List.length_append]; exact hz') (r1.append r2) k⟩))
                · subst h
                  cases r1
                  exact k μ H _ f S (Rep.tup t2 r2)
                · subst h2
                  cases r2
                  rw [List.append_nil] at k
                  exact k μ H _ f S (Rep.tup t1 r1)
              · simp only [if_neg hz] at e
                cases e
        | _ => exact both e
    | _ => exact both e
theorem op_addN {X : Cx} : OpR X (binaryOp .Add) (rAddN X.K) := op_add.or (op_add_str.or (op_catA.or op_cat))
end
end Nx

end

section
set_option maxHeartbeats 1000000
/-! Nx5: the other operations of two values. -/
namespace Nx
open PySem PySem.Spec PyProof.Rows L2

section
variable {K : PySem.W.Frag}
/-- of two ints -/
theorem ii_of {μ : List Addr} {H H0 : AHp} {i j : Int} {u v : V} (rx : RepW K H0 μ H (.val (.int i)) u) (ry : RepW K H0 μ H (.val (.int j)) v) : u = .int i ∧ v = .int j := by
  cases rx
  cases ry
  exact ⟨rfl, rfl⟩
theorem two_ints {x y : W} {f : Int → Int → V1} {w : W} {st st' : Sto} (e : (match x, y with
    | .val (.int i), .val (.int j) => f i j
    | _, _ => none) = some (w, st')) : ∃ i j, x = .val (.int i) ∧ y = .val (.int j) ∧ f i j = some (w, st') := by
  split at e
  · exact ⟨_, _, rfl, rfl, e⟩
  · cases e
theorem k2_sub : K2 K .sub (rI0 fun i j => .int (i - j)) := by
  intro μ0 H0 μ H st x y u v w st' Q f S rx ry e k
  obtain ⟨i, j, rfl, rfl, e⟩ := two_ints (st := st) e
  obtain ⟨rfl, rfl⟩ := ii_of rx ry
  obtain ⟨rfl, rfl⟩ := vI_inj e
  exact ⟨i, j, rfl, rfl, k μ H _ f S (Rep.int _)⟩
theorem k2_fdiv : K2 K .fdiv (rI CDivW fun i j => .int (i / j)) := by
  intro μ0 H0 μ H st x y u v w st' Q f S rx ry e k
  obtain ⟨i, j, hx, hy, e1⟩ := two_ints (st := st) e
  clear e
  subst hx
  subst hy
  obtain ⟨rfl, rfl⟩ := ii_of rx ry
  have e := e1
  split at e
  · rename_i hc
    obtain ⟨rfl, rfl⟩ := vI_inj e
    exact ⟨i, j, rfl, rfl, hc, k μ H _ f S (Rep.int _)⟩
  · cases e
theorem k2_mod : K2 K .mod (rI (fun _ j => 0 < j) fun i j => .int (i % j)) := by
  intro μ0 H0 μ H st x y u v w st' Q f S rx ry e k
  obtain ⟨i, j, hx, hy, e1⟩ := two_ints (st := st) e
  clear e
  subst hx
  subst hy
  obtain ⟨rfl, rfl⟩ := ii_of rx ry
  have e := e1
  split at e
  · rename_i hc
    obtain ⟨rfl, rfl⟩ := vI_inj e
    exact ⟨i, j, rfl, rfl, hc, k μ H _ f S (Rep.int _)⟩
  · cases e
theorem k2_pow : K2 K .pow (rI CPow fun i j => .int (i ^ j.toNat)) := by
  intro μ0 H0 μ H st x y u v w st' Q f S rx ry e k
  obtain ⟨i, j, hx, hy, e1⟩ := two_ints (st := st) e
  clear e
  subst hx
  subst hy
  obtain ⟨rfl, rfl⟩ := ii_of rx ry
  have e := e1
  split at e
  · rename_i hc
    obtain ⟨rfl, rfl⟩ := vI_inj e
    exact ⟨i, j, rfl, rfl, hc, k μ H _ f S (Rep.int _)⟩
  · cases e
def rMulN (K : PySem.W.Frag) : R2 := rTwo (rI CMulW fun i j => .int (i * j)) (rTwo (rRepT K) rRep)
theorem op_mulN {X : Cx} : OpR X (binaryOp .Mult) (rMulN X.K) := op_mulW.or (op_repT.or op_rep)
theorem k2_mul : K2 K .mul (rMulN K) := by
  intro μ0 H0 μ H st x y u v w st' Q f S rx ry e k
  have lists : ∀ {x : W} {kk : Int}, RepW K H0 μ H x u → RepW K H0 μ H (.val (.int kk)) v → (match lstOf st x with
      | some ds => if -1000000 < kk ∧ kk < 1000000 ∧ ds.length * kk.toNat ≤ sizeLine then some (W.new (List.replicate kk.toNat ds).flatten, st) else none
      | none => none) = some (w, st') → rMulN K u v H Q := by
    intro x kk rx ry h
    cases h1 : lstOf st x with
    | none => rw [h1] at h; simp at h
    | some ds =>
      rw [h1] at h
      simp only at h
      split at h
      · rename_i hc
        cases h
        obtain ⟨p, vs, rfl, g1, z1, r1⟩ := lst_at S rx h1
        cases ry
        obtain ⟨c1, c2, c3⟩ := hc
        have hz : vs.length * kk.toNat ≤ sizeLine := by rw [← r1.length]; exact c3
        exact .inr (.inr ⟨p, kk, vs, rfl, rfl, g1, by omega, by omega, hz, new_lst f S (by rw [PyProof.Rows.lm_len_rep_flat, Nat.mul_comm]; exact hz) (r1.rep kk.toNat) k⟩)
      · cases h
  unfold op2 at e
  cases y with
  | new es => cases x with
    | new ds => simp at e
    | val d => cases d <;> simp at e
  | val d' =>
    cases d' with
    | int j =>
      cases x with
      | new ds => exact lists rx ry e
      | val d =>
        cases d with
        | int i =>
          simp only at e
          split at e
          · rename_i hc
            obtain ⟨rfl, rfl⟩ := ii_of rx ry
            obtain ⟨rfl, rfl⟩ := vI_inj e
            exact .inl ⟨i, j, rfl, rfl, (show CMulW i j from of_decide_eq_true (p := i.natAbs.log2 + j.natAbs.log2 < 1000000) hc), k μ H _ f S (Rep.int _)⟩
          · cases e
        | tup ds =>
          simp only at e
          split at e
          · rename_i hc
            obtain ⟨rfl, rfl⟩ := vD_inj e
            cases rx with
            | tup t1 r1 =>
              cases ry
              obtain ⟨c1, c2, c3, c4⟩ := hc
              refine .inr (.inl ⟨_, j, _, rfl, rfl, t1.sq, fun h => ?_, c2, c3, by rw [← r1.length]; exact c4, new_tup f S ?_ (r1.rep j.toNat) k⟩)
              · subst h
                cases r1
                simp at c1
              · rw [PyProof.Rows.lm_len_rep_flat, ← r1.length]
                have h1 : j.toNat ≤ 1000 := by omega
                have h2 : j.toNat * ds.length ≤ 1000 * 1000 := Nat.mul_le_mul h1 c4
                rw [sizeLine_eq]
                omega
          · cases e
        | _ => exact lists rx ry e
    | _ => cases x with
      | new ds => simp at e
      | val d => cases d <;> simp at e
def rEqAll (K : PySem.W.Frag) : R2 := rTwo rEq (rEqD K)
def rNeAll (K : PySem.W.Frag) : R2 := rTwo rNe (rNeD K)
theorem op_eqAll {X : Cx} (hu : X.A.units + 64 < cLine) : OpR X (compareOp .Eq) (rEqAll X.K) := op_eq.or (op_eqD hu)
theorem op_neAll {X : Cx} (hu : X.A.units + 64 < cLine) : OpR X (compareOp .NotEq) (rNeAll X.K) := op_ne.or (op_neD hu)
theorem eqD_of {μ : List Addr} {H H0 : AHp} {st : Sto} {x y : W} {u v : V} {b : Bool} (S : StoOk K μ st H) (rx : RepW K H0 μ H x u) (ry : RepW K H0 μ H y v) (e : eqD st x y = some b) :
    (scal u v = true ∧ b = decide (u = v)) ∨ ∃ p q, Dp K H u p ∧ Dp K H v q ∧ SeqAt.shaped p = true ∧ SeqAt.shaped q = true ∧ b = PyData.eqv p q := by
  unfold eqD at e
  split at e
  · cases rx
    cases ry
    cases e
    rename_i s t _ _
    refine .inl ⟨rfl, ?_⟩
    by_cases h : s = t
    · subst h
      simp
    · have : ¬ V.str s = V.str t := fun z => h (V.str.inj z)
      rw [decide_eq_false h, decide_eq_false this]
  · cases h1 : toPyW st x with
    | none => rw [h1] at e; simp at e
    | some p =>
      cases h2 : toPyW st y with
      | none => rw [h1, h2] at e; simp at e
      | some q =>
        rw [h1, h2] at e
        cases e
        obtain ⟨a1, a2⟩ := dpw_of S rx h1
        obtain ⟨b1, b2⟩ := dpw_of S ry h2
        exact .inr ⟨p, q, a1, b1, a2, b2, rfl⟩
theorem k2_eq : K2 K .eq (rEqAll K) := by
  intro μ0 H0 μ H st x y u v w st' Q f S rx ry e k
  simp only [op2] at e
  split at e
  · rename_i b hb
    obtain ⟨rfl, rfl⟩ := vB_inj e
    have q := k μ H _ f S (Rep.bl _)
    rcases eqD_of S rx ry hb with ⟨h1, rfl⟩ | ⟨p, r, h1, h2, h3, h4, rfl⟩
    · exact .inl ⟨h1, q⟩
    · exact .inr ⟨p, r, h1, h2, h3, h4, q⟩
  · cases e
theorem k2_ne : K2 K .ne (rNeAll K) := by
  intro μ0 H0 μ H st x y u v w st' Q f S rx ry e k
  simp only [op2] at e
  split at e
  · rename_i b hb
    obtain ⟨rfl, rfl⟩ := vB_inj e
    have q := k μ H _ f S (Rep.bl _)
    rcases eqD_of S rx ry hb with ⟨h1, rfl⟩ | ⟨p, r, h1, h2, h3, h4, rfl⟩
    · exact .inl ⟨h1, q⟩
    · exact .inr ⟨p, r, h1, h2, h3, h4, q⟩
  · cases e
abbrev rLtS : R2 := fun x y H Q => ∃ i j, x = .str i ∧ y = .str j ∧ Q (.bl (decide (i.cps.toList < j.cps.toList))) H
abbrev rLeS : R2 := fun x y H Q => ∃ i j, x = .str i ∧ y = .str j ∧ Q (.bl (!decide (j.cps.toList < i.cps.toList))) H
theorem op_ltN {X : Cx} : OpR X (compareOp .Lt) (rTwo (rI0 fun i j => .bl (decide (i < j))) rLtS) := op_lt.or op_lt_str
theorem op_leN {X : Cx} : OpR X (compareOp .LtE) (rTwo (rI0 fun i j => .bl (decide (i ≤ j))) rLeS) := op_le.or op_le_str
theorem k2_lt : K2 K .lt (rTwo (rI0 fun i j => .bl (decide (i < j))) rLtS) := by
  intro μ0 H0 μ H st x y u v w st' Q f S rx ry e k
  simp only [op2] at e
  split at e
  · obtain ⟨rfl, rfl⟩ := ii_of rx ry
    obtain ⟨rfl, rfl⟩ := vB_inj e
    exact .inl ⟨_, _, rfl, rfl, k μ H _ f S (Rep.bl _)⟩
  · cases rx
    cases ry
    obtain ⟨rfl, rfl⟩ := vB_inj e
    exact .inr ⟨_, _, rfl, rfl, k μ H _ f S (Rep.bl _)⟩
  · cases e
theorem k2_le : K2 K .le (rTwo (rI0 fun i j => .bl (decide (i ≤ j))) rLeS) := by
  intro μ0 H0 μ H st x y u v w st' Q f S rx ry e k
  simp only [op2] at e
  split at e
  · obtain ⟨rfl, rfl⟩ := ii_of rx ry
    obtain ⟨rfl, rfl⟩ := vB_inj e
    exact .inl ⟨_, _, rfl, rfl, k μ H _ f S (Rep.bl _)⟩
  · cases rx
    cases ry
    obtain ⟨rfl, rfl⟩ := vB_inj e
    exact .inr ⟨_, _, rfl, rfl, k μ H _ f S (Rep.bl _)⟩
  · cases e
theorem k2_gt : K2 K .gt (rI0 fun i j => .bl (decide (j < i))) := by
  intro μ0 H0 μ H st x y u v w st' Q f S rx ry e k
  obtain ⟨i, j, rfl, rfl, e⟩ := two_ints (st := st) e
  obtain ⟨rfl, rfl⟩ := ii_of rx ry
  obtain ⟨rfl, rfl⟩ := vB_inj e
  exact ⟨i, j, rfl, rfl, k μ H _ f S (Rep.bl _)⟩
theorem k2_ge : K2 K .ge (rI0 fun i j => .bl (decide (j ≤ i))) := by
  intro μ0 H0 μ H st x y u v w st' Q f S rx ry e k
  obtain ⟨i, j, rfl, rfl, e⟩ := two_ints (st := st) e
  obtain ⟨rfl, rfl⟩ := ii_of rx ry
  obtain ⟨rfl, rfl⟩ := vB_inj e
  exact ⟨i, j, rfl, rfl, k μ H _ f S (Rep.bl _)⟩
abbrev rIsN : R2 := fun x y H Q => y = .non ∧ Q (.bl (decide (x = .non))) H
abbrev rNotN : R2 := fun x y H Q => y = .non ∧ Q (.bl (!decide (x = .non))) H
theorem op_isAll {X : Cx} : OpR X (compareOp .Is) (rTwo rIsN rIsB) := op_isN.or op_isBl
theorem op_notAll {X : Cx} : OpR X (compareOp .IsNot) (rTwo rNotN rNotB) := op_notN.or op_notBl
theorem not_non {μ : List Addr} {H H0 : AHp} {x : W} {u : V} (rx : RepW K H0 μ H x u) (h : x ≠ .val .non) : u ≠ .non := by
  cases x with
  | new ds =>
    obtain ⟨p, vs, rfl, _⟩ := rx
    exact fun z => V.noConfusion z
  | val d =>
    intro z
    subst z
    cases rx
    exact h rfl
theorem k2_is : K2 K .is (rTwo rIsN rIsB) := by
  intro μ0 H0 μ H st x y u v w st' Q f S rx ry e k
  simp only [op2] at e
  split at e
  · cases rx
    cases ry
    obtain ⟨rfl, rfl⟩ := vB_inj e
    exact .inl ⟨rfl, k μ H _ f S (Rep.bl _)⟩
  · rename_i hne
    cases ry
    obtain ⟨rfl, rfl⟩ := vB_inj e
    have n : u ≠ .non := not_non rx fun z => hne (by injection z)
    exact .inl ⟨rfl, by rw [decide_eq_false n]; exact k μ H _ f S (Rep.bl _)⟩
  · cases ry
    obtain ⟨rfl, rfl⟩ := vB_inj e
    have n : u ≠ .non := not_non rx fun z => by cases z
    exact .inl ⟨rfl, by rw [decide_eq_false n]; exact k μ H _ f S (Rep.bl _)⟩
  · cases rx
    cases ry
    obtain ⟨rfl, rfl⟩ := vB_inj e
    refine .inr ⟨_, _, rfl, rfl, ?_⟩
    exact k μ H _ f S (Rep.bl _)
  · cases e
theorem k2_isn : K2 K .isn (rTwo rNotN rNotB) := by
  intro μ0 H0 μ H st x y u v w st' Q f S rx ry e k
  simp only [op2] at e
  split at e
  · cases rx
    cases ry
    obtain ⟨rfl, rfl⟩ := vB_inj e
    exact .inl ⟨rfl, k μ H _ f S (Rep.bl _)⟩
  · rename_i hne
    cases ry
    obtain ⟨rfl, rfl⟩ := vB_inj e
    have n : u ≠ .non := not_non rx fun z => hne (by injection z)
    exact .inl ⟨rfl, by rw [decide_eq_false n]; exact k μ H _ f S (Rep.bl _)⟩
  · cases ry
    obtain ⟨rfl, rfl⟩ := vB_inj e
    have n : u ≠ .non := not_non rx fun z => by cases z
    exact .inl ⟨rfl, by rw [decide_eq_false n]; exact k μ H _ f S (Rep.bl _)⟩
  · cases rx
    cases ry
    obtain ⟨rfl, rfl⟩ := vB_inj e
    refine .inr ⟨_, _, rfl, rfl, ?_⟩
    exact k μ H _ f S (Rep.bl _)
  · cases e
end
end Nx

end

section
set_option maxHeartbeats 1000000
/-! Nx6: in, subscripts, built-ins of two values, methods. -/
namespace Nx
open PySem PySem.Spec PyProof.Rows L2

section
variable {K : PySem.W.Frag} {μ : List Addr} {H : AHp}
theorem flat_v {d : D} {v : V} (r : Rep K μ H d v) (h : flatD d = true) : flatV v = true := by
  cases r <;> first | rfl | (simp [flatD] at h)
theorem flat_vs : ∀ {ds : List D} {vs : List V}, RepL K μ H ds vs → ds.all flatD = true → vs.all flatV = true
  | _, _, .nil, _ => rfl
  | _, _, .cons r t, h => by
    simp only [List.all_cons, Bool.and_eq_true] at h ⊢
    exact ⟨flat_v r h.1, flat_vs t h.2⟩
theorem eqF_v {d e : D} {v u : V} (r : Rep K μ H d v) (q : Rep K μ H e u) (hd : flatD d = true) (he : flatD e = true) : eqF d e = eqV v u := by
  cases r <;> cases q <;> first | rfl | (simp [flatD] at hd) | (simp [flatD] at he) | skip
  all_goals simp [eqF, eqV]
theorem anyF_v {d : D} {v : V} (r : Rep K μ H d v) (hd : flatD d = true) : ∀ {ds : List D} {vs : List V}, RepL K μ H ds vs → ds.all flatD = true → (ds.any fun e => eqF e d) = inV v vs
  | _, _, .nil, _ => rfl
  | _, _, .cons q t, h => by
    simp only [List.all_cons, Bool.and_eq_true] at h
    have e1 := eqF_v q r h.1 hd
    have e2 := anyF_v r hd t h.2
    unfold inV at e2 ⊢
    rw [List.any_cons, List.any_cons, e2, e1]
theorem key_v {d : D} {v : V} {k : L2.Key} (r : Rep K μ H d v) (h : keyOf d = some k) : v = kV k := by
  cases r <;> simp [keyOf] at h <;> subst h <;> rfl
theorem getK_v : ∀ {kvs : List (L2.Key × D)} {s : List (L2.Key × V)} (k : L2.Key), RepKV K μ H kvs s → (∀ d, getKD kvs k = some d → ∃ v, valV s k = some v ∧ Rep K μ H d v) ∧ (getKD kvs k = none → valV s k = none)
  | _, _, k, .nil => ⟨fun d h => by simp [getKD] at h, fun _ => rfl⟩
  | _, _, k, .cons (k := j) (d := d) (v := v) r t => by
    obtain ⟨h1, h2⟩ := getK_v k t
    by_cases e : j = k
    · subst e
      refine ⟨fun d' h => ?_, fun h => ?_⟩
      · simp [getKD, List.find?_cons] at h
        subst h
        exact ⟨v, valV_pos rfl, r⟩
      · simp [getKD, List.find?_cons] at h
    · refine ⟨fun d' h => ?_, fun h => ?_⟩
      · rw [valV_neg e]
        exact h1 d' (by simpa [getKD, List.find?_cons, e] using h)
      · rw [valV_neg e]
        exact h2 (by simpa [getKD, List.find?_cons, e] using h)
theorem getK_some {kvs : List (L2.Key × D)} {s : List (L2.Key × V)} (k : L2.Key) (r : RepKV K μ H kvs s) : (valV s k).isSome = (getKD kvs k).isSome := by
  obtain ⟨h1, h2⟩ := getK_v k r
  cases e : getKD kvs k with
  | none => rw [h2 e]; rfl
  | some d =>
    obtain ⟨v, h, _⟩ := h1 d e
    rw [h]
    rfl
theorem RepKV.length : ∀ {kvs : List (L2.Key × D)} {s : List (L2.Key × V)}, RepKV K μ H kvs s → kvs.length = s.length
  | _, _, .nil => rfl
  | _, _, .cons _ t => by simp [t.length]
theorem RepKV.append : ∀ {a b : List (L2.Key × D)} {c d : List (L2.Key × V)}, RepKV K μ H a c → RepKV K μ H b d → RepKV K μ H (a ++ b) (c ++ d)
  | _, _, _, _, .nil, s => s
  | _, _, _, _, .cons r t, s => .cons r (t.append s)
theorem putK_v {kvs : List (L2.Key × D)} {s : List (L2.Key × V)} {k : L2.Key} {d : D} {v : V} (r : RepKV K μ H kvs s) (q : Rep K μ H d v) : RepKV K μ H (putKD kvs k d) (putK s k v) := by
  have hany : ∀ {kvs : List (L2.Key × D)} {s : List (L2.Key × V)}, RepKV K μ H kvs s → (kvs.any fun kv => decide (kv.1 = k)) = (s.any fun kv => decide (kv.1 = k)) := by
    intro kvs s r
    induction r with
    | nil => rfl
    | cons r t ih => simp only [List.any_cons, ih]
  have hmap : ∀ {kvs : List (L2.Key × D)} {s : List (L2.Key × V)}, RepKV K μ H kvs s → RepKV K μ H (kvs.map fun kv => if kv.1 = k then (kv.1, d) else kv) (s.map fun kv => if kv.1 = k then (kv.1, v) else kv) := by
    intro kvs s r
    induction r with
    | nil => exact .nil
    | @cons j e u r s r t ih =>
      simp only [List.map_cons]
      by_cases h : j = k
      · rw [if_pos h, if_pos h]
        exact .cons q ih
      · rw [if_neg h, if_neg h]
        exact .cons r ih
  unfold putKD putK
  rw [hany r]
  split
  · exact hmap r
  · exact r.append (.cons q .nil)
theorem mergeK_v : ∀ {more : List (L2.Key × D)} {ms : List (L2.Key × V)} {kvs : List (L2.Key × D)} {s : List (L2.Key × V)}, RepKV K μ H more ms → RepKV K μ H kvs s → RepKV K μ H (mergeKD kvs more) (mergeK s ms)
  | _, _, _, _, .nil, r => r
  | _, _, _, _, .cons (r := more) (s := ms) q t, r => mergeK_v (more := more) (ms := ms) t (putK_v r q)
end

section
variable {K : PySem.W.Frag}
abbrev rInSign : R2 := fun x y H Q => ∃ (c : Nat) (z : Str), x = .str ⟨#[c]⟩ ∧ y = .str z ∧ Q (.bl (decide (c ∈ z.cps.toList))) H
abbrev rNinSign : R2 := fun x y H Q => ∃ (c : Nat) (z : Str), x = .str ⟨#[c]⟩ ∧ y = .str z ∧ Q (.bl (!decide (c ∈ z.cps.toList))) H
def rInDct : R2 := fun y x H Q => ∃ a o, x = .ref a ∧ DGet H a y o ∧ Q (.bl o.isSome) H
def rNinDct : R2 := fun y x H Q => ∃ a o, x = .ref a ∧ DGet H a y o ∧ Q (.bl (!o.isSome)) H
theorem op_inDct {X : Cx} (hu : X.A.units + 1 < cLine) : OpR X (compareOp .In) rInDct := by
  intro pins s σ H x y v u Q I rx ry h
  obtain ⟨a, o, rfl, g, q⟩ := h
  cases ry
  exact d_in hu I g rx fun s3 I3 => ⟨.bl o.isSome, H, I3, rfl, q⟩
theorem op_ninDct {X : Cx} (hu : X.A.units + 1 < cLine) : OpR X (compareOp .NotIn) rNinDct := by
  intro pins s σ H x y v u Q I rx ry h
  obtain ⟨a, o, rfl, g, q⟩ := h
  cases ry
  exact d_notIn hu I g rx fun s3 I3 => ⟨.bl (!o.isSome), H, I3, rfl, q⟩
def rInAll (K : PySem.W.Frag) : R2 := rTwo rInSign (rTwo (rIn K false) rInDct)
def rNinAll (K : PySem.W.Frag) : R2 := rTwo rNinSign (rTwo (rIn K true) rNinDct)
theorem op_inAll {X : Cx} (hu : X.A.units + 1 < cLine) : OpR X (compareOp .In) (rInAll X.K) := op_in_sign.or (op_in_seq.or (op_inDct hu))
theorem op_ninAll {X : Cx} (hu : X.A.units + 1 < cLine) : OpR X (compareOp .NotIn) (rNinAll X.K) := op_notIn_sign.or (op_notIn_seq.or (op_ninDct hu))
theorem one_sign {s : Str} (h : s.length = 1) : s = ⟨#[s.cps.getD 0 0]⟩ := by
  obtain ⟨⟨l⟩⟩ := s
  have h' : l.length = 1 := h
  match l, h' with
  | [c], _ => rfl
theorem k2_inn : K2 K .inn (rInAll K) := by
  intro μ0 H0 μ H st x y u v w st' Q f S rx ry e k
  simp only [op2] at e
  split at e
  · rename_i s z
    split at e
    · rename_i h1
      cases rx
      cases ry
      obtain ⟨rfl, rfl⟩ := vB_inj e
      exact .inl ⟨_, z, congrArg V.str (one_sign h1), rfl, k μ H _ f S (Rep.bl _)⟩
    · cases e
  · rename_i y d hne
    have flat : ∀ {ds : List D}, (if flatD d = true ∧ ds.all flatD = true then vB (ds.any fun e => eqF e d) st else none) = some (w, st') → (∃ p vs, v = .ref p ∧ (SqL K H p vs ∨ SqT K H p vs) ∧ RepL K μ H ds vs) → rInAll K u v H Q := by
      intro ds h ⟨p, vs, hv, hs, r⟩
      split at h
      · rename_i hc
        obtain ⟨rfl, rfl⟩ := vB_inj h
        have q := k μ H _ f S (Rep.bl _)
        rw [anyF_v rx hc.1 r hc.2] at q
        exact .inr (.inl ⟨p, vs, hv, hs, flat_v rx hc.1, flat_vs r hc.2, q⟩)
      · cases h
    split at e
    · rename_i l
      split at e
      · rename_i kvs hl
        split at e
        · rename_i kk hk
          obtain ⟨rfl, rfl⟩ := vB_inj e
          obtain ⟨a, s, rfl, hm, ha, z, r⟩ := dct_at S ry hl
          have q := k μ H _ f S (Rep.bl _)
          rw [← getK_some kk r] at q
          have ek := key_v rx hk
          subst ek
          exact .inr (.inr ⟨a, _, rfl, DGet.k ha, q⟩)
        · cases e
      · rename_i ds hl
        obtain ⟨p, vs, h1, h2, h3, h4⟩ := list_at (x := .val (.ref l)) (ds := ds) S ry (by simp [listOf, hl])
        exact flat e ⟨p, vs, h1, .inl h2, h4⟩
      · cases e
    · rename_i ds
      cases ry with
      | tup t r => exact flat e ⟨_, _, rfl, .inr t.sq, r⟩
    · rename_i ds
      obtain ⟨p, vs, h1, h2, h3, h4⟩ := list_at (x := .new ds) S ry rfl
      exact flat e ⟨p, vs, h1, .inl h2, h4⟩
    · cases e
  · cases e
theorem k2_nin : K2 K .nin (rNinAll K) := by
  intro μ0 H0 μ H st x y u v w st' Q f S rx ry e k
  simp only [op2] at e
  split at e
  · rename_i s z
    split at e
    · rename_i h1
      cases rx
      cases ry
      obtain ⟨rfl, rfl⟩ := vB_inj e
      exact .inl ⟨_, z, congrArg V.str (one_sign h1), rfl, k μ H _ f S (Rep.bl _)⟩
    · cases e
  · rename_i y d hne
    have flat : ∀ {ds : List D}, (if flatD d = true ∧ ds.all flatD = true then vB (!(ds.any fun e => eqF e d)) st else none) = some (w, st') → (∃ p vs, v = .ref p ∧ (SqL K H p vs ∨ SqT K H p vs) ∧ RepL K μ H ds vs) → rNinAll K u v H Q := by
      intro ds h ⟨p, vs, hv, hs, r⟩
      split at h
      · rename_i hc
        obtain ⟨rfl, rfl⟩ := vB_inj h
        have q := k μ H _ f S (Rep.bl _)
        rw [anyF_v rx hc.1 r hc.2] at q
        exact .inr (.inl ⟨p, vs, hv, hs, flat_v rx hc.1, flat_vs r hc.2, q⟩)
      · cases h
    split at e
    · rename_i l
      split at e
      · rename_i kvs hl
        split at e
        · rename_i kk hk
          obtain ⟨rfl, rfl⟩ := vB_inj e
          obtain ⟨a, s, rfl, hm, ha, z, r⟩ := dct_at S ry hl
          have q := k μ H _ f S (Rep.bl _)
          rw [← getK_some kk r] at q
          have ek := key_v rx hk
          subst ek
          exact .inr (.inr ⟨a, _, rfl, DGet.k ha, q⟩)
        · cases e
      · rename_i ds hl
        obtain ⟨p, vs, h1, h2, h3, h4⟩ := list_at (x := .val (.ref l)) (ds := ds) S ry (by simp [listOf, hl])
        exact flat e ⟨p, vs, h1, .inl h2, h4⟩
      · cases e
    · rename_i ds
      cases ry with
      | tup t r => exact flat e ⟨_, _, rfl, .inr t.sq, r⟩
    · rename_i ds
      obtain ⟨p, vs, h1, h2, h3, h4⟩ := list_at (x := .new ds) S ry rfl
      exact flat e ⟨p, vs, h1, .inl h2, h4⟩
    · cases e
  · cases e

/-! subscripts -/
def rIxDct : R2 := fun x y H Q => ∃ a v, x = .ref a ∧ DGet H a y (some v) ∧ Q v H
theorem ix_dct {X : Cx} (hu : X.A.units + 1 < cLine) : IxR X rIxDct := by
  intro value slice pins s σ H x y v u Q I rx ry h hs
  obtain ⟨a, z, rfl, g, q⟩ := h
  cases rx
  have fin : wpAny (model X.prog X.w) X.A (subscripted slice false (.ref a) u) (fun r s₃ => wpAny (model X.prog X.w) X.A (letTemporaryGo value (.ref a) r >>= fun _ => pure r) (EP X pins σ Q) X.xe s₃) X.xe s := by
    rw [hs]
    exact wpAny_operating (d_getItem hu I g ry fun w' s3 I3 rw' => wpAny_bind (wpAny_letTemporaryGo (wpAny_pure ⟨z, H, I3, rw', q⟩)))
  have hT := dict_typeIs I g
  unfold subscriptTail
  refine wpAny_bind ?_
  rw [getitemInPython_of_ne hT.not_modules]
  refine wpAny_bind (wpAny_specialOf hT PySem.F.slot_dict_getitem.lookup ?_)
  first
    | exact wpAny_pure (wpAny_bind fin)
    | exact wpAny_bind (wpAny_pure (wpAny_bind fin))
    | exact wpAny_bind fin
def rIxAll (K : PySem.W.Frag) : R2 := rTwo (rIx K) rIxDct
theorem ix_all {X : Cx} (hu : X.A.units + 1 < cLine) : IxR X (rIxAll X.K) := ix_seq.or (ix_dct hu)
theorem atI_rep {μ : List Addr} {H : AHp} {ds : List D} {vs : List V} {i : Int} {d : D} (r : RepL K μ H ds vs) (h : atI ds i = some d) : ∃ v, atI vs i = some v ∧ Rep K μ H d v := by
  unfold atI at h ⊢
  rw [← r.length]
  cases e : ixN ds.length i with
  | none => rw [e] at h; cases h
  | some j =>
    rw [e] at h
    exact r.get h
theorem one_le_line : 1 ≤ sizeLine := by decide
theorem k2_idx : K2 K .idx (rIxAll K) := by
  intro μ0 H0 μ H st x y u v w st' Q f S rx ry e k
  simp only [op2] at e
  have seqs : ∀ {ds : List D} {i : Int}, (match atI ds i with
      | some d => vD d st
      | none => none) = some (w, st') → v = .int i → (∃ p vs, u = .ref p ∧ (SqL K H p vs ∨ SqT K H p vs) ∧ RepL K μ H ds vs) → rIxAll K u v H Q := by
    intro ds i h hv ⟨p, vs, hu, hs, r⟩
    cases hd : atI ds i with
    | none => rw [hd] at h; cases h
    | some d =>
      rw [hd] at h
      obtain ⟨rfl, rfl⟩ := vD_inj h
      obtain ⟨z, h1, h2⟩ := atI_rep r hd
      rcases hs with hs | hs
      · exact .inl (.inl ⟨p, vs, i, z, hu, hv, hs, h1, k μ H _ f S h2⟩)
      · exact .inl (.inr (.inl ⟨p, vs, i, z, hu, hv, hs, h1, k μ H _ f S h2⟩))
  split at e
  · rename_i s i
    cases ry
    cases rx with
    | str _ z =>
      cases hc : atI s.cps.toList i with
      | none => rw [hc] at e; cases e
      | some c =>
        rw [hc] at e
        obtain ⟨rfl, rfl⟩ := vD_inj e
        exact .inl (.inr (.inr ⟨s, i, c, rfl, rfl, z, hc, k μ H _ f S (Rep.str _ one_le_line)⟩))
  · rename_i y l
    split at e
    · rename_i kvs d hl
      split at e
      · rename_i kk hk
        split at e
        · rename_i d' hd
          obtain ⟨rfl, rfl⟩ := vD_inj e
          obtain ⟨a, s, rfl, hm, ha, z, r⟩ := dct_at S rx hl
          obtain ⟨z', h1, h2⟩ := (getK_v kk r).1 _ hd
          have ek := key_v ry hk
          subst ek
          refine .inr ⟨a, z', rfl, ?_, k μ H _ f S h2⟩
          rw [← h1]
          exact DGet.k ha
        · cases e
      · cases e
    · rename_i ds i hl
      cases ry
      obtain ⟨p, vs, h1, h2, h3, h4⟩ := list_at (x := .val (.ref l)) (ds := ds) S rx (by simp [listOf, hl])
      exact seqs e rfl ⟨p, vs, h1, .inl h2, h4⟩
    · cases e
  · rename_i ds i
    cases ry
    cases rx with
    | tup t r => exact seqs e rfl ⟨_, _, rfl, .inr t.sq, r⟩
  · rename_i ds i
    cases ry
    obtain ⟨p, vs, h1, h2, h3, h4⟩ := list_at (x := .new ds) S rx rfl
    exact seqs e rfl ⟨p, vs, h1, .inl h2, h4⟩
  · rename_i ds i
    cases ry
    obtain ⟨p, vs, h1, h2, h3, h4⟩ := list_at (x := .val (.lis ds)) S rx rfl
    exact seqs e rfl ⟨p, vs, h1, .inl h2, h4⟩
  · cases e
end
end Nx

end

section
set_option maxHeartbeats 1000000
/-! Nx7: methods that change a list or a dict, built-ins of two values, operations of one value, slices, get. -/
namespace Nx
open PySem PySem.Spec PyProof.Rows L2

section
variable {K : PySem.W.Frag}
abbrev rDivmod : R2 := fun x y H Q => ∃ i j, ([x, y] : List V) = [.int i, .int j] ∧ CDiv i j ∧ ∀ p, H p = none → Q (.ref p) (upd H p (.tup [.int (i / j), .int (i % j)]))
theorem k2_divmod : K2 K .divmod rDivmod := by
  intro μ0 H0 μ H st x y u v w st' Q f S rx ry e k
  obtain ⟨i, j, hx, hy, e1⟩ := two_ints (st := st) e
  clear e
  subst hx
  subst hy
  obtain ⟨rfl, rfl⟩ := ii_of rx ry
  split at e1
  · rename_i hc
    obtain ⟨rfl, rfl⟩ := vD_inj e1
    exact ⟨i, j, rfl, hc, new_tup (ds := [.int (i / j), .int (i % j)]) f S (by show 2 ≤ sizeLine; decide) (.cons (.int _) (.cons (.int _) .nil)) k⟩
  · cases e1
theorem k2_max2 : K2 K .max2 (fun x y H Q => ∃ i j, ([x, y] : List V) = [.int i, .int j] ∧ Q (.int (if j > i then j else i)) H) := by
  intro μ0 H0 μ H st x y u v w st' Q f S rx ry e k
  obtain ⟨i, j, hx, hy, e1⟩ := two_ints (st := st) e
  clear e
  subst hx
  subst hy
  obtain ⟨rfl, rfl⟩ := ii_of rx ry
  obtain ⟨rfl, rfl⟩ := vI_inj e1
  exact ⟨i, j, rfl, k μ H _ f S (Rep.int _)⟩
theorem k2_min2 : K2 K .min2 (fun x y H Q => ∃ i j, ([x, y] : List V) = [.int i, .int j] ∧ Q (.int (if j < i then j else i)) H) := by
  intro μ0 H0 μ H st x y u v w st' Q f S rx ry e k
  obtain ⟨i, j, hx, hy, e1⟩ := two_ints (st := st) e
  clear e
  subst hx
  subst hy
  obtain ⟨rfl, rfl⟩ := ii_of rx ry
  obtain ⟨rfl, rfl⟩ := vI_inj e1
  exact ⟨i, j, rfl, k μ H _ f S (Rep.int _)⟩
theorem k2_append : K2 K .append (fun x y H Q => rAppend x [y] H Q) := by
  intro μ0 H0 μ H st x y u v w st' Q f S rx ry e k
  simp only [op2] at e
  split at e
  · rename_i l
    split at e
    · rename_i ds hl
      split at e
      · rename_i hz
        cases e
        obtain ⟨μ', F', G', S', R'⟩ := settle_ok f S ry
        cases (show Rep K μ H (.ref l) u from rx) with
        | @ref _ a ha =>
          obtain ⟨vs, h1, z1, r1⟩ := S.obj _ _ _ ha hl
          have ha' := G'.pre _ _ ha
          refine ⟨a, vs, v, rfl, rfl, h1, by rw [← r1.length]; exact hz, ?_⟩
          have hk : SameKd (.lst vs) (.lst (vs ++ [v])) := True.intro
          have W1 : Fw K μ' H μ' (upd H a (.lst (vs ++ [v]))) := Fw.write ha' h1 hk
          refine k μ' _ .non (F'.trans W1) (S'.write ha' h1 hk ⟨vs ++ [v], upd_same, ?_, ?_⟩) Rep.non
          · rw [List.length_append, List.length_singleton, ← r1.length]
            omega
          · exact ((r1.fw G').append (.cons R' .nil)).fw W1.toGr
      · cases e
    · cases e
  · cases e
theorem k2_extend : K2 K .extend (fun x y H Q => rExtend x [y] H Q) := by
  intro μ0 H0 μ H st x y u v w st' Q f S rx ry e k
  simp only [op2] at e
  split at e
  · rename_i l
    split at e
    · rename_i ds es hl he
      split at e
      · rename_i hz
        cases e
        obtain ⟨q, ws, rfl, g2, z2, r2⟩ := lst_at S ry he
        cases (show Rep K μ H (.ref l) u from rx) with
        | @ref _ a ha =>
          obtain ⟨vs, h1, z1, r1⟩ := S.obj _ _ _ ha hl
          have hz' : vs.length + ws.length ≤ sizeLine := by rw [← r1.length, ← r2.length]; exact hz.1
          refine ⟨a, q, vs, ws, rfl, rfl, h1, g2, hz', ?_⟩
          have hk : SameKd (.lst vs) (.lst (vs ++ ws)) := True.intro
          have W1 : Fw K μ H μ (upd H a (.lst (vs ++ ws))) := Fw.write ha h1 hk
          refine k μ _ .non (f.trans W1) (S.write ha h1 hk ⟨vs ++ ws, upd_same, ?_, ?_⟩) Rep.non
          · rw [List.length_append]
            exact hz'
          · exact (r1.append r2).fw W1.toGr
      · cases e
    · cases e
  · cases e
def rUpdate : V → List V → AHp → VK → Prop := fun x xs H Q => ∃ d o kvs more, x = .ref d ∧ xs = [.ref o] ∧ H d = some (.dK kvs) ∧ H o = some (.dK more) ∧ d ≠ o ∧ kvs.length + more.length ≤ sizeLine ∧ Q .non (upd H d (.dK (mergeK kvs more)))
theorem mt_update {X : Cx} : MtR X "dict.update" rUpdate := by
  intro pins s σ H x xs v us Q I rx rs h
  obtain ⟨d, o, kvs, more, rfl, rfl, hd, ho, hne, hz, q⟩ := h
  cases rx
  obtain ⟨u1, rfl, ru⟩ := rs.one
  cases ru
  obtain ⟨z1, g1, vs1, rel1, dd1⟩ := dk_of I.hok hd
  obtain ⟨z2, g2, vs2, rel2, dd2⟩ := dk_of I.hok ho
  refine call_meetsIn PySem.F.slot_dict_update dd1.typeIs PySem.F.entry_dict_update (PySem.F.args_dict_update_2 _ _) (meets_dict_update (mixKind X.prog X.w) d o hne g2)
    ⟨vs1, vs2, dd1, dd2, by rw [← rel1.length, ← rel2.length]; exact hz, fun h' dd' _ hs => ?_⟩
  have he : ∃ q, h'.get? d = some q := let ⟨q, _, _, hq, _⟩ := dd'; ⟨q, hq⟩
  have hl : (mergeK kvs more).length ≤ sizeLine := Nat.le_trans (length_mergeK more kvs) hz
  exact ⟨.non, _, d_write (t' := s.toks) I (by rw [hd]; exact True.intro) hs he (dk_new hl g1 (rel2.merge rel1) dd'), rfl, q⟩
theorem length_mergeKD : ∀ (more kvs : List (L2.Key × D)), (mergeKD kvs more).length ≤ kvs.length + more.length
  | [], kvs => by show kvs.length ≤ kvs.length + 0; omega
  | p :: r, kvs => by
    have h1 := length_mergeKD r (putKD kvs p.1 p.2)
    have h2 : (putKD kvs p.1 p.2).length ≤ kvs.length + 1 := by
      unfold putKD
      split <;> simp
    show (mergeKD (putKD kvs p.1 p.2) r).length ≤ _
    rw [List.length_cons]
    omega
theorem k2_update : K2 K .update (fun x y H Q => rUpdate x [y] H Q) := by
  intro μ0 H0 μ H st x y u v w st' Q f S rx ry e k
  simp only [op2] at e
  split at e
  · rename_i l m
    split at e
    · rename_i ds es hl hm
      split at e
      · rename_i hz
        cases e
        obtain ⟨a, s1, rfl, ma, ha, z1, r1⟩ := dct_at S rx hl
        obtain ⟨b, s2, rfl, mb, hb, z2, r2⟩ := dct_at S ry hm
        have hne : a ≠ b := fun q => by
          subst q
          obtain ⟨x1, y1⟩ := List.getElem?_eq_some_iff.mp ma
          obtain ⟨x2, y2⟩ := List.getElem?_eq_some_iff.mp mb
          exact hz.2 ((List.getElem_inj S.nd).mp (y1.trans y2.symm))
        have hl1 : s1.length + s2.length ≤ 1000 := by rw [← r1.length, ← r2.length]; exact hz.1
        have hbig : 1000 ≤ sizeLine := by decide
        refine ⟨a, b, s1, s2, rfl, rfl, ha, hb, hne, Nat.le_trans hl1 hbig, ?_⟩
        have hk : SameKd (.dK s1) (.dK (mergeK s1 s2)) := True.intro
        have W1 : Fw K μ H μ (upd H a (.dK (mergeK s1 s2))) := Fw.write ma ha hk
        refine k μ _ .non (f.trans W1) (S.write ma ha hk ⟨mergeK s1 s2, upd_same, ?_, ?_⟩) Rep.non
        · exact Nat.le_trans (length_mergeK s2 s1) (Nat.le_trans hl1 hbig)
        · exact (mergeK_v r2 r1).fw W1.toGr
      · cases e
    · cases e
  · cases e
theorem strs_rep {μ : List Addr} {H : AHp} : ∀ {ds : List D} {vs : List V} {xs : List Str}, RepL K μ H ds vs → strsOf ds = some xs → vs = xs.map V.str
  | [], _, xs, .nil, e => by simp [strsOf] at e; subst e; rfl
  | d :: ds, _, xs, .cons r t, e => by
    cases d <;> simp [strsOf] at e
    obtain ⟨r', e1, rfl⟩ := e
    cases r
    rw [strs_rep t e1]
    rfl
theorem bools_rep {μ : List Addr} {H : AHp} : ∀ {ds : List D} {vs : List V} {xs : List Bool}, RepL K μ H ds vs → boolsOf ds = some xs → vs = xs.map V.bl
  | [], _, xs, .nil, e => by simp [boolsOf] at e; subst e; rfl
  | d :: ds, _, xs, .cons r t, e => by
    cases d <;> simp [boolsOf] at e
    obtain ⟨r', e1, rfl⟩ := e
    cases r
    rw [bools_rep t e1]
    rfl
theorem ints_rep {μ : List Addr} {H : AHp} : ∀ {ds : List D} {vs : List V} {xs : List Int}, RepL K μ H ds vs → intsOf ds = some xs → vs = xs.map V.int
  | [], _, xs, .nil, e => by simp [intsOf] at e; subst e; rfl
  | d :: ds, _, xs, .cons r t, e => by
    cases d <;> simp [intsOf] at e
    obtain ⟨r', e1, rfl⟩ := e
    cases r
    rw [ints_rep t e1]
    rfl
abbrev rJoin (K : PySem.W.Frag) : V → List V → AHp → VK → Prop := fun x xs H Q => ∃ a p, ∃ ys : List Str, x = .str a ∧ xs = [.ref p] ∧ (SqL K H p (ys.map V.str) ∨ SqT K H p (ys.map V.str)) ∧
    (ys.map (·.length)).sum + ys.length * a.length ≤ 16777216 ∧ Q (.str (Txt.join a ys)) H
theorem k2_join : K2 K .join (fun x y H Q => rJoin K x [y] H Q) := by
  intro μ0 H0 μ H st x y u v w st' Q f S rx ry e k
  simp only [op2] at e
  split at e
  · rename_i s
    split at e
    · rename_i xs hx
      split at e
      · rename_i hz
        obtain ⟨rfl, rfl⟩ := vD_inj e
        obtain ⟨ds, h1, h2⟩ := Option.bind_eq_some_iff.mp hx
        obtain ⟨p, vs, rfl, g, z, r⟩ := list_at S ry h1
        have ev := strs_rep r h2
        subst ev
        cases rx
        exact ⟨s, p, xs, rfl, rfl, .inl g, hz.1, k μ H _ f S (Rep.str _ hz.2)⟩
      · cases e
    · cases e
  · cases e

/-! ### one value -/
def K1 (K : PySem.W.Frag) (o : P1) (r : V → AHp → VK → Prop) : Prop :=
  ∀ (μ0 : List Addr) (H0 : AHp) (μ : List Addr) (H : AHp) (st : Sto) (x : W) (u : V) (w : W) (st' : Sto) (Q : VK), Fw K μ0 H0 μ H → StoOk K μ st H → RepW K H0 μ H x u → op1 o x st = some (w, st') →
    (∀ μ' H' z, Fw K μ0 H0 μ' H' → StoOk K μ' st' H' → RepW K H0 μ' H' w z → Q z H') → r u H Q
theorem ty_of {μ : List Addr} {H H0 : AHp} {st : Sto} {x : W} {u : V} {a : String} (S : StoOk K μ st H) (rx : RepW K H0 μ H x u) (e : tyName st x = some a) : TyX K H u (.type a) := by
  cases x with
  | new ds =>
    simp only [tyName, Option.some.injEq] at e
    subst e
    obtain ⟨p, vs, rfl, _, _, hp, _⟩ := rx
    exact .base (.lst hp)
  | val d =>
    cases d with
    | non => cases e; cases rx; exact .base .non
    | bl b => cases e; cases rx; exact .base (.bl b)
    | int b => cases e; cases rx; exact .base (.int b)
    | str b => cases e; cases rx; exact .base (.str b)
    | tup ds =>
      cases e
      cases rx with
      | tup t r =>
        rcases t with ⟨_, h | ⟨o, its, n, h1, h2, _⟩⟩
        · exact .base (.tup h)
        · exact .kTuple h1 h2
    | lis ds =>
      cases e
      cases rx with
      | lis t r =>
        rcases t with ⟨_, ⟨ob, h⟩ | ⟨o, its, n, h1, h2, _⟩⟩
        · exact .base (.frz h)
        · exact .kList h1 h2
    | ref l =>
      cases rx with
      | ref hl =>
        obtain ⟨o, ho, q⟩ := S.at hl
        simp only [tyName, ho] at e
        cases o with
        | lst ds =>
          cases e
          obtain ⟨vs, h, _⟩ := q
          exact .base (.lst h)
        | dct ds =>
          cases e
          obtain ⟨vs, h, _⟩ := q
          exact .base (.dK h)
theorem k1_isT {T : String} : K1 K (.isT T) (fun x H Q => rIsi K [x, .ty T] H Q) := by
  intro μ0 H0 μ H st x u w st' Q f S rx e k
  simp only [op1] at e
  split at e
  · rename_i a ha
    split at e
    · rename_i b hb
      obtain ⟨rfl, rfl⟩ := vB_inj e
      exact ⟨u, .ty T, .type a, .type T, b, rfl, .ty T, ty_of S rx ha, kit_ty hb, k μ H _ f S (Rep.bl _)⟩
    · cases e
  · cases e
def rLenAll (K : PySem.W.Frag) : List V → AHp → VK → Prop := fun xs H Q => (∃ p ys, xs = [.ref p] ∧ (SqL K H p ys ∨ SqT K H p ys) ∧ Q (.int ys.length) H) ∨ (∃ z, xs = [.str z] ∧ z.length ≤ sizeLine ∧ Q (.int z.length) H) ∨ (∃ a kvs, xs = [V.ref a] ∧ H a = some (.dK kvs) ∧ Q (.int kvs.length) H)
theorem call_lenAll {X : Cx} : CallR X (.builtin "len") (rLenAll X.K) := call_len_seq.or (call_len_str.or call_lenD)
theorem k1_len : K1 K .len (fun x H Q => rLenAll K [x] H Q) := by
  intro μ0 H0 μ H st x u w st' Q f S rx e k
  have fin : ∀ {ds : List D}, vI ds.length st = some (w, st') → (∃ p vs, u = .ref p ∧ (SqL K H p vs ∨ SqT K H p vs) ∧ RepL K μ H ds vs) → rLenAll K [u] H Q := by
    intro ds h ⟨p, vs, hu, hs, r⟩
    obtain ⟨rfl, rfl⟩ := vI_inj h
    have q := k μ H _ f S (Rep.int _)
    rw [r.length] at q
    exact .inl ⟨p, vs, by rw [hu], hs, q⟩
  simp only [op1] at e
  split at e
  · rename_i s
    cases rx with
    | str _ z =>
      obtain ⟨rfl, rfl⟩ := vI_inj e
      exact .inr (.inl ⟨s, rfl, z, k μ H _ f S (Rep.int _)⟩)
  · rename_i l
    split at e
    · rename_i ds hl
      obtain ⟨p, vs, h1, h2, h3, h4⟩ := list_at (x := .val (.ref l)) (ds := ds) S rx (by simp [listOf, hl])
      exact fin e ⟨p, vs, h1, .inl h2, h4⟩
    · rename_i ds hl
      obtain ⟨a, s, rfl, hm, ha, z, r⟩ := dct_at S rx hl
      obtain ⟨rfl, rfl⟩ := vI_inj e
      have q := k μ H _ f S (Rep.int _)
      rw [r.length] at q
      exact .inr (.inr ⟨a, s, rfl, ha, q⟩)
    · cases e
  · rename_i ds
    cases rx with
    | tup t r => exact fin e ⟨_, _, rfl, .inr t.sq, r⟩
  · rename_i ds
    obtain ⟨p, vs, h1, h2, h3, h4⟩ := list_at (x := .new ds) S rx rfl
    exact fin e ⟨p, vs, h1, .inl h2, h4⟩
  · rename_i ds
    obtain ⟨p, vs, h1, h2, h3, h4⟩ := list_at (x := .val (.lis ds)) S rx rfl
    exact fin e ⟨p, vs, h1, .inl h2, h4⟩
  · cases e
theorem k1_abs : K1 K .abs (fun x H Q => ∃ i, ([x] : List V) = [.int i] ∧ Q (.int (if i < 0 then -i else i)) H) := by
  intro μ0 H0 μ H st x u w st' Q f S rx e k
  simp only [op1] at e
  split at e
  · cases rx
    obtain ⟨rfl, rfl⟩ := vI_inj e
    exact ⟨_, rfl, k μ H _ f S (Rep.int _)⟩
  · cases e
theorem k1_int : K1 K .int (fun x H Q => (∃ i, ([x] : List V) = [.int i] ∧ Q (.int i) H) ∨ ∃ k, ([x] : List V) = [.bl k] ∧ Q (.int (if k then 1 else 0)) H) := by
  intro μ0 H0 μ H st x u w st' Q f S rx e k
  simp only [op1] at e
  split at e
  · cases rx
    obtain ⟨rfl, rfl⟩ := vI_inj e
    exact .inl ⟨_, rfl, k μ H _ f S (Rep.int _)⟩
  · cases rx
    obtain ⟨rfl, rfl⟩ := vI_inj e
    exact .inr ⟨_, rfl, k μ H _ f S (Rep.int _)⟩
  · cases e
theorem k1_neg : K1 K .neg (rU fun i => .int (-i)) := by
  intro μ0 H0 μ H st x u w st' Q f S rx e k
  simp only [op1] at e
  split at e
  · cases rx
    obtain ⟨rfl, rfl⟩ := vI_inj e
    exact ⟨_, rfl, k μ H _ f S (Rep.int _)⟩
  · cases e
/-- a value's truth -/
theorem tru_of {μ : List Addr} {H H0 : AHp} {st : Sto} {x : W} {u : V} {b : Bool} (S : StoOk K μ st H) (rx : RepW K H0 μ H x u) (e : truth st x = some b) : TruV K u H b := by
  have emp : ∀ {ds : List D} {vs : List V}, RepL K μ H ds vs → ds.isEmpty = vs.isEmpty := fun r => by cases r <;> rfl
  cases x with
  | new ds =>
    obtain ⟨p, vs, rfl, _, _, hp, z, r⟩ := rx
    simp only [truth, Option.some.injEq] at e
    subst e
    exact .inl ⟨vs, .inl (.inl hp), by rw [emp r]⟩
  | val d =>
    cases d with
    | non => cases e; cases rx; rfl
    | bl b => cases e; cases rx; rfl
    | int i => cases e; cases rx; rfl
    | str s =>
      cases e
      cases rx with
      | str _ z => exact ⟨z, by simp only [bne, BEq.beq]; congr 1; simp [Int.ofNat_eq_zero]⟩
    | tup ds =>
      cases e
      cases rx with
      | tup t r => exact .inr (.inl ⟨_, t.sq, by rw [emp r]⟩)
    | lis ds =>
      cases e
      cases rx with
      | lis t r => exact .inl ⟨_, t.sq, by rw [emp r]⟩
    | ref l =>
      cases rx with
      | ref hl =>
        obtain ⟨o, ho, q⟩ := S.at hl
        simp only [truth, ho] at e
        cases o with
        | lst ds =>
          cases e
          obtain ⟨vs, h, z, r⟩ := q
          exact .inl ⟨vs, .inl (.inl h), by rw [emp r]⟩
        | dct ds =>
          cases e
          obtain ⟨s, h, z, r⟩ := q
          exact .inr (.inr ⟨s, h, by cases r <;> rfl⟩)
theorem k1_all : K1 K .all (fun x H Q => rAll K [x] H Q) := by
  intro μ0 H0 μ H st x u w st' Q f S rx e k
  simp only [op1] at e
  split at e
  · rename_i bs hb
    obtain ⟨ds, h1, h2⟩ := Option.bind_eq_some_iff.mp hb
    obtain ⟨rfl, rfl⟩ := vB_inj e
    obtain ⟨p, vs, rfl, g, z, r⟩ := list_at S rx h1
    have ev := bools_rep r h2
    subst ev
    exact ⟨p, bs, rfl, g, k μ H _ f S (Rep.bl _)⟩
  · cases e
theorem k1_any : K1 K .any (fun x H Q => rAny K [x] H Q) := by
  intro μ0 H0 μ H st x u w st' Q f S rx e k
  simp only [op1] at e
  split at e
  · rename_i bs hb
    obtain ⟨ds, h1, h2⟩ := Option.bind_eq_some_iff.mp hb
    obtain ⟨rfl, rfl⟩ := vB_inj e
    obtain ⟨p, vs, rfl, g, z, r⟩ := list_at S rx h1
    have ev := bools_rep r h2
    subst ev
    exact ⟨p, bs, rfl, g, k μ H _ f S (Rep.bl _)⟩
  · cases e
theorem k1_sum : K1 K .sum (fun x H Q => rSum K [x] H Q) := by
  intro μ0 H0 μ H st x u w st' Q f S rx e k
  simp only [op1] at e
  split at e
  · rename_i bs hb
    obtain ⟨ds, h1, h2⟩ := Option.bind_eq_some_iff.mp hb
    obtain ⟨rfl, rfl⟩ := vI_inj e
    obtain ⟨p, vs, rfl, g, z, r⟩ := list_at S rx h1
    have ev := ints_rep r h2
    subst ev
    exact ⟨p, bs, rfl, g, k μ H _ f S (Rep.int _)⟩
  · cases e
abbrev rTupleOf (K : PySem.W.Frag) : List V → AHp → VK → Prop := fun xs H Q => ∃ p ys, xs = [.ref p] ∧ ((SqL K H p ys ∧ ∀ l, H l = none → Q (.ref l) (upd H l (.tup ys))) ∨ (SqT K H p ys ∧ Q (.ref p) H))
abbrev rListOf (K : PySem.W.Frag) : List V → AHp → VK → Prop := fun xs H Q => ∃ p ys, xs = [.ref p] ∧ (SqL K H p ys ∨ SqT K H p ys) ∧ ∀ l, H l = none → Q (.ref l) (upd H l (.lst ys))
theorem seq_at {μ : List Addr} {H H0 : AHp} {st : Sto} {x : W} {u : V} {ds : List D} (S : StoOk K μ st H) (rx : RepW K H0 μ H x u) (e : seqOf st x = some ds) :
    (x = .val (.tup ds) ∧ ∃ p vs, u = .ref p ∧ TupAt K H p vs ∧ RepL K μ H ds vs) ∨ ∃ p vs, u = .ref p ∧ SqL K H p vs ∧ vs.length ≤ sizeLine ∧ RepL K μ H ds vs := by
  unfold seqOf at e
  split at e
  · cases e
    cases rx with
    | tup t r => exact .inl ⟨rfl, _, _, rfl, t, r⟩
  · exact .inr (list_at S rx e)
theorem k1_tuple : K1 K .tuple (fun x H Q => rTupleOf K [x] H Q) := by
  intro μ0 H0 μ H st x u w st' Q f S rx e k
  simp only [op1] at e
  split at e
  · rename_i ds hd
    obtain ⟨rfl, rfl⟩ := vD_inj e
    rcases seq_at S rx hd with ⟨rfl, p, vs, rfl, t, r⟩ | ⟨p, vs, rfl, g, z, r⟩
    · exact ⟨p, vs, rfl, .inr ⟨t.sq, k μ H _ f S (Rep.tup t r)⟩⟩
    · exact ⟨p, vs, rfl, .inl ⟨g, new_tup f S z r k⟩⟩
  · cases e
theorem k1_list : K1 K .list (fun x H Q => rListOf K [x] H Q) := by
  intro μ0 H0 μ H st x u w st' Q f S rx e k
  simp only [op1] at e
  split at e
  · rename_i ds hd
    cases e
    rcases seq_at S rx hd with ⟨rfl, p, vs, rfl, t, r⟩ | ⟨p, vs, rfl, g, z, r⟩
    · exact ⟨p, vs, rfl, .inr t.sq, new_lst f S t.1 r k⟩
    · exact ⟨p, vs, rfl, .inl g, new_lst f S z r k⟩
  · cases e
end
end Nx

end

section
set_option maxHeartbeats 1000000
/-! Nx8: repr, greatest, least, turned about, slices, get, stores at an index. -/
namespace Nx
open PySem PySem.Spec PyProof.Rows L2

section
variable {K : PySem.W.Frag}
theorem foldl_max : ∀ (ns : List Int) (n : Int), (ns.foldl max n ∈ n :: ns) ∧ ∀ y ∈ n :: ns, y ≤ ns.foldl max n
  | [], n => ⟨by simp, fun y h => by simp at h; simp [h]⟩
  | m :: ns, n => by
    obtain ⟨h1, h2⟩ := foldl_max ns (max n m)
    simp only [List.foldl_cons]
    refine ⟨?_, fun y hy => ?_⟩
    · rcases List.mem_cons.mp h1 with e | e
      · rw [e]
        by_cases c : n ≤ m
        · rw [Int.max_eq_right c]; simp
        · rw [Int.max_eq_left (by omega)]; simp
      · simp [e]
    · have q := h2 (max n m) (by simp)
      rcases List.mem_cons.mp hy with e | hy
      · subst e; omega
      · rcases List.mem_cons.mp hy with e | hy
        · subst e; omega
        · exact h2 y (by simp [hy])
theorem foldl_min : ∀ (ns : List Int) (n : Int), (ns.foldl min n ∈ n :: ns) ∧ ∀ y ∈ n :: ns, ns.foldl min n ≤ y
  | [], n => ⟨by simp, fun y h => by simp at h; simp [h]⟩
  | m :: ns, n => by
    obtain ⟨h1, h2⟩ := foldl_min ns (min n m)
    simp only [List.foldl_cons]
    refine ⟨?_, fun y hy => ?_⟩
    · rcases List.mem_cons.mp h1 with e | e
      · rw [e]
        by_cases c : n ≤ m
        · rw [Int.min_eq_left c]; simp
        · rw [Int.min_eq_right (by omega)]; simp
      · simp [e]
    · have q := h2 (min n m) (by simp)
      rcases List.mem_cons.mp hy with e | hy
      · subst e; omega
      · rcases List.mem_cons.mp hy with e | hy
        · subst e; omega
        · exact h2 y (by simp [hy])
theorem k1_maxL : K1 K .maxL (fun x H Q => rMax K [x] H Q) := by
  intro μ0 H0 μ H st x u w st' Q f S rx e k
  simp only [op1] at e
  split at e
  · rename_i n ns hb
    obtain ⟨ds, h1, h2⟩ := Option.bind_eq_some_iff.mp hb
    obtain ⟨rfl, rfl⟩ := vI_inj e
    obtain ⟨p, vs, rfl, g, z, r⟩ := list_at S rx h1
    have ev := ints_rep r h2
    subst ev
    refine ⟨p, n :: ns, rfl, g, by simp, fun m hm hy => ?_⟩
    obtain ⟨a, b⟩ := foldl_max ns n
    have em : m = ns.foldl max n := Int.le_antisymm (b m hm) (hy _ a)
    rw [em]
    exact k μ H _ f S (Rep.int _)
  · cases e
theorem k1_minL : K1 K .minL (fun x H Q => rMin K [x] H Q) := by
  intro μ0 H0 μ H st x u w st' Q f S rx e k
  simp only [op1] at e
  split at e
  · rename_i n ns hb
    obtain ⟨ds, h1, h2⟩ := Option.bind_eq_some_iff.mp hb
    obtain ⟨rfl, rfl⟩ := vI_inj e
    obtain ⟨p, vs, rfl, g, z, r⟩ := list_at S rx h1
    have ev := ints_rep r h2
    subst ev
    refine ⟨p, n :: ns, rfl, g, by simp, fun m hm hy => ?_⟩
    obtain ⟨a, b⟩ := foldl_min ns n
    have em : m = ns.foldl min n := Int.le_antisymm (hy _ a) (b m hm)
    rw [em]
    exact k μ H _ f S (Rep.int _)
  · cases e

/-! repr -/
def rRepr (K : PySem.W.Frag) : List V → AHp → VK → Prop := fun xs H Q => ∃ x p, xs = [x] ∧ Dp K H x p ∧ SeqAt.shaped p = true ∧ p.showable = true ∧ p.shown.length ≤ sizeLine ∧ Q (.str p.shown) H
theorem call_repr_data {X : Cx} (hg : X.A.guards = some []) (hu : X.A.units + 70 < cLine) : CallR X (.builtin "repr") (rRepr X.K) := by
  intro pins s σ H xs us Q I r h
  obtain ⟨x, p, rfl, hd, hs, hw, hz, q⟩ := h
  obtain ⟨u, rfl, ru⟩ := vals1 r
  obtain ⟨as, rd⟩ := Dp.reads I p x u hd ru
  have dep := SeqAt.depth_of_shaped hs
  have nod : p.hasDict = false := PyData.hasDict_of_canLay p (SeqAt.canLay_of_shaped hs)
  cases hd with
  | non =>
    cases ru
    exact P.repr_of_none ⟨.str _, H, I.tok _, ⟨_, rfl⟩, q⟩
  | bl b =>
    cases ru
    refine P.repr_of_bool ⟨.str _, H, I.tok _, ⟨_, rfl⟩, ?_⟩
    cases b <;> exact q
  | int i =>
    obtain ⟨t, rfl⟩ := ru
    refine P.repr_of_int (of_decide_eq_true hw) ⟨.str _, H, I.tok _, ⟨_, rfl⟩, q⟩
  | str z =>
    obtain ⟨t, rfl⟩ := ru
    exact P.repr_of_str ⟨.str _, H, I.tok _, ⟨_, rfl⟩, q⟩ hz
  | lst h1 h2 =>
    cases ru
    exact repr_of_reads' rd hw (PyData.noDict_hsm nod) hg (by omega) (fun b o e => e) (fun h' v tk hk => ⟨.str _, H, I.kept hk, ⟨_, rfl⟩, q⟩) hz
  | tup h1 h2 =>
    cases ru
    exact repr_of_reads' rd hw (PyData.noDict_hsm nod) hg (by omega) (fun b o e => e) (fun h' v tk hk => ⟨.str _, H, I.kept hk, ⟨_, rfl⟩, q⟩) hz
theorem k1_repr : K1 K .repr (fun x H Q => rRepr K [x] H Q) := by
  intro μ0 H0 μ H st x u w st' Q f S rx e k
  simp only [op1] at e
  split at e
  · rename_i p hp
    split at e
    · rename_i hc
      obtain ⟨rfl, rfl⟩ := vD_inj e
      obtain ⟨h1, h2⟩ := dpw_of S rx hp
      exact ⟨u, p, rfl, h1, h2, hc.1, hc.2, k μ H _ f S (Rep.str _ hc.2)⟩
    · cases e
  · cases e

/-! slices -/
theorem cut_rep {μ : List Addr} {H : AHp} {ds : List D} {vs : List V} (r : RepL K μ H ds vs) (lo hi : Option Int) : RepL K μ H (cutD ds lo hi) (cutV vs lo hi) := by
  unfold cutD cutV
  rw [r.length]
  exact (r.drop _).take _
def rSlAll (K : PySem.W.Frag) : V → Option Int → Option Int → AHp → VK → Prop := fun x lo hi H Q => rSlA K x lo hi H Q ∨ rSlL K x lo hi H Q
theorem sl_all {X : Cx} : SlR X (rSlAll X.K) := sl_tupA.or sl_list
theorem cut_whole {ds : List D} {lo hi : Option Int} (h : HT.sIx ds.length 0 lo = 0 ∧ HT.sIx ds.length ds.length hi = ds.length) : cutD ds lo hi = ds := by
  unfold cutD
  rw [h.1, h.2]
  simp
/-- a slice, from what the small language computes -/
theorem k3_slice {μ0 μ : List Addr} {H0 H : AHp} {st st' : Sto} {x w : W} {u : V} {lo hi : Option Int} {Q : VK} (f : Fw K μ0 H0 μ H) (S : StoOk K μ st H)
    (e : (match x with
      | .val (.tup ds) => vD (.tup (cutD ds lo hi)) st
      | x => match listOf st x with
        | some ds => some (W.new (cutD ds lo hi), st)
        | none => none) = some (w, st')) (rx : RepW K H0 μ H x u) (k : ∀ μ' H' z, Fw K μ0 H0 μ' H' → StoOk K μ' st' H' → RepW K H0 μ' H' w z → Q z H') : rSlAll K u lo hi H Q := by
  have lists : (match listOf st x with
        | some ds => some (W.new (cutD ds lo hi), st)
        | none => none) = some (w, st') → rSlAll K u lo hi H Q := fun e => by
    split at e
    · rename_i ds hd
      cases e
      obtain ⟨p, vs, rfl, g, z, r⟩ := list_at S rx hd
      exact .inr ⟨p, vs, rfl, g, new_lst f S (Nat.le_trans (cutV_length vs lo hi) z) (cut_rep r lo hi) k⟩
    · cases e
  cases x with
  | new ds => exact lists e
  | val d =>
    cases d with
    | tup ds =>
      obtain ⟨rfl, rfl⟩ := vD_inj e
      cases rx with
      | @tup a _ vs t r =>
        refine .inl ⟨a, vs, rfl, t.sq, fun h => ?_, fun _ => new_tup f S (Nat.le_trans (cutV_length vs lo hi) t.1) (cut_rep r lo hi) k⟩
        rw [← r.length] at h
        rw [cut_whole h] at k
        exact k μ H _ f S (Rep.tup t r)
    | _ => exact lists e

/-! the whole turned about: x[::-1] -/
theorem adjust_back (n : Nat) : Builtin.Slice.sliceAdjust none none (-1) (n : Int) = ((n : Int) - 1, -1) := by
  unfold Builtin.Slice.sliceAdjust
  simp
theorem places_back (n : Nat) : Builtin.Slice.slicePlaces ((n : Int) - 1) (-1) (-1) = n := by
  unfold Builtin.Slice.slicePlaces
  simp
  split <;> omega
theorem pick_back (l : List Value) : ((List.range l.length).filterMap fun (m : Nat) => l.toArray[(((l.length : Int) - 1) + (m : Int) * (-1)).toNat]?) = l.reverse := by
  have e : ∀ (k : Nat), k ≤ l.length → ((List.range k).filterMap fun (m : Nat) => l.toArray[(((l.length : Int) - 1) + (m : Int) * (-1)).toNat]?) = l.reverse.take k := by
    intro k
    induction k with
    | zero => intro _; simp
    | succ k ih =>
      intro hk
      rw [List.range_succ, List.filterMap_append, ih (by omega)]
      have h1 : (((l.length : Int) - 1) + -(k : Int)).toNat = l.length - 1 - k := by omega
      have h2 : l.length - 1 - k < l.length := by omega
      have h3 : l.reverse[k]? = l[l.length - 1 - k]? := by rw [List.getElem?_reverse (by omega)]
      rw [List.take_add_one]
      congr 1
      rw [h3]
      simp [h1, h2]
  have := e l.length (Nat.le_refl _)
  rw [this]
  rw [List.take_of_length_le (by simp)]
theorem item_tuple_back {prog : Program} {w : World} {A : Around} {E : Value → Shared → Prop} {s : Shared} {t sl : Addr} {l : List Value} {vl vu vs : Value} {Q : Value → Shared → Prop} (ht : IsTup s.heap t l.toArray) (hs : s.heap.IsSliceOf sl vl vu vs)
    (pl : IsPart vl none) (pu : IsPart vu none) (ps : IsPart vs (some (-1)))
    (h : Q (.ref s.heap.objs.size) { s with heap := s.heap.push { cls := .type "tuple", data := .seq l.reverse.toArray } }) (hz : l.length ≤ sizeLine) : wpAny (model prog w) A (getItem (.ref t) (.ref sl)) Q E s := by
  obtain ⟨os, hos, hcs, hds⟩ := id hs
  have tys : s.TypeIs (.ref sl) "slice" := ⟨os, hos, hcs⟩
  have room : sizeOk (.seq l.reverse.toArray) := by
    show l.reverse.toArray.size ≤ sizeLine
    simpa using hz
  unfold getItem
  try with_reducible refine wpAny_holding ?_
  first | refine wpAny_bind (wpAny_pure ?_) | skip
  refine wpAny_bind (wpAny_sequenceKey ht.typeIs (by decide) (wpAny_bind (wpAny_callSpecial?_slot (name := Str.ofString "__getitem__") ht.typeIs PyProof.Rows.slot_tuple_getitem
    (wpAny_call_entry PyProof.Rows.slot_tuple_getitem ht.typeIs entry_tuple_getitem ?_ (args_tuple_getitem _ _)))))
  show wpAny _ _ (Builtin.Tuple.tupleItemsOf (.ref t) >>= _) _ _ s
  refine wpAny_bind (tupleItemsOf_ ht (wpAny_bind (wpAny_typeOf tys ?_)))
  rw [if_pos (by decide)]
  have app : ∀ {Q' : Int × Int × Nat → Shared → Prop}, Q' ((l.length : Int) - 1, -1, l.length) s → wpAny (model prog w) A.in1 (Builtin.Slice.sliceApplied (.ref sl) (pure (l.toArray.size : Int))) Q' (fun e s' => E e s') s := by
    intro Q' hq
    unfold Builtin.Slice.sliceApplied Builtin.Slice.sliceFields
    refine wpAny_bind (wpAny_bind (wpAny_field hos hds (x := vl) rfl (wpAny_bind (wpAny_field hos hds (x := vu) rfl (wpAny_bind (wpAny_field hos hds (x := vs) rfl (wpAny_pure ?_)))))))
    refine wpAny_bind (HT.slicePart_ ps ?_)
    show wpAny _ _ (if ((-1 : Int) == 0) = true then _ else _) _ _ s
    rw [if_neg (by decide)]
    refine wpAny_bind (HT.slicePart_ pl (wpAny_bind (HT.slicePart_ pu (wpAny_bind (wpAny_pure ?_)))))
    show wpAny _ _ (match Builtin.Slice.sliceAdjust none none (-1) (l.toArray.size : Int) with | (lo, hi) => pure (lo, (-1 : Int), Builtin.Slice.slicePlaces lo hi (-1))) _ _ s
    rw [show (l.toArray.size : Int) = (l.length : Int) by simp, adjust_back]
    show wpAny _ _ (pure ((l.length : Int) - 1, (-1 : Int), Builtin.Slice.slicePlaces ((l.length : Int) - 1) (-1) (-1))) _ _ s
    rw [places_back]
    exact wpAny_pure hq
  refine wpAny_bind (app ?_)
  have no : ¬ ((((l.length : Int) - 1) == 0 && (-1 : Int) == 1 && l.length == l.toArray.size) = true) := by
    intro q
    simp at q
  show wpAny _ _ (if (((l.length : Int) - 1) == 0 && (-1 : Int) == 1 && l.length == l.toArray.size) = true then _ else _) _ _ s
  rw [if_neg no, pick_back]
  first
    | exact wpAny_bind (m := Builtin.Tuple.tupleExact _) (wpAny_newObj_type (wpAny_pure ⟨_, rfl, wpAny_pure h⟩) room)
    | exact wpAny_bind (m := Builtin.Tuple.tupleExact _) (wpAny_newObj_type (wpAny_bind (wpAny_pure (wpAny_pure ⟨_, rfl, wpAny_pure h⟩))) room)
    | exact wpAny_bind (wpAny_bind (m := Builtin.Tuple.tupleExact _) (wpAny_newObj_type (wpAny_pure (wpAny_pure ⟨_, rfl, wpAny_pure h⟩)) room))
    | exact wpAny_bind (wpAny_bind (m := Builtin.Tuple.tupleExact _) (wpAny_newObj_type (wpAny_pure ⟨_, rfl, wpAny_pure h⟩) room))
end
end Nx

end

section
set_option maxHeartbeats 1000000
/-! Nx9: the readings of expressions, statements; what follows of them in the layer. -/
namespace Nx
open PySem PySem.Spec PyProof.Rows L2

abbrev ASt := L2.St
/-- names, store and heap go together -/
structure Rl (K : PySem.W.Frag) (μ : List Addr) (ρ : Rho) (st : Sto) (σ : ASt) (H : AHp) : Prop where
  sto : StoOk K μ st H
  len : σ.length = ρ.length
  env : ∀ (i : Nat) (d : D), ρ[i]? = some (some d) → ∃ v, σ[i]? = some (some v) ∧ Rep K μ H d v
theorem Rl.fw {K : PySem.W.Frag} {μ μ' : List Addr} {ρ : Rho} {st st' : Sto} {σ : ASt} {H H' : AHp} (R : Rl K μ ρ st σ H) (f : Gr K μ H μ' H') (S : StoOk K μ' st' H') : Rl K μ' ρ st' σ H' :=
  ⟨S, R.len, fun i d h => let ⟨v, h1, h2⟩ := R.env i d h; ⟨v, h1, h2.fw f⟩⟩
theorem Rl.set {K : PySem.W.Frag} {μ : List Addr} {ρ : Rho} {st : Sto} {σ : ASt} {H : AHp} (R : Rl K μ ρ st σ H) {d : D} {v : V} (r : Rep K μ H d v) (i : Nat) : Rl K μ (ρ.set i (some d)) st (σ.set i (some v)) H := by
  refine ⟨R.sto, by simp [R.len], fun j e h => ?_⟩
  by_cases hj : j = i
  · subst hj
    have hl : j < ρ.length := by
      have := (List.getElem?_eq_some_iff.mp h).1
      simpa using this
    rw [List.getElem?_set_self hl] at h
    cases h
    exact ⟨v, by rw [List.getElem?_set_self (by rw [R.len]; exact hl)], r⟩
  · rw [List.getElem?_set_ne (Ne.symm hj)] at h
    obtain ⟨u, h1, h2⟩ := R.env j e h
    exact ⟨u, by rw [List.getElem?_set_ne (Ne.symm hj)]; exact h1, h2⟩

/-- an expression's reading -/
def RdW (K : PySem.W.Frag) (f : Rho → Sto → V1) : TE := fun σ H Q => ∃ μ ρ st w st', Rl K μ ρ st σ H ∧ f ρ st = some (w, st') ∧
  ∀ μ' H' v, Fw K μ H μ' H' → StoOk K μ' st' H' → RepW K H μ' H' w v → Q v H'
/-- a test's -/
def RdT (K : PySem.W.Frag) (f : Rho → Sto → Option (Bool × Sto)) : TT := fun σ H Q => ∃ μ ρ st b st', Rl K μ ρ st σ H ∧ f ρ st = some (b, st') ∧
  ∀ μ' H', Fw K μ H μ' H' → StoOk K μ' st' H' → Q b H'
/-- arguments', each with a name -/
def RdA (K : PySem.W.Frag) (f : Rho → Sto → Option (List D × Sto)) : TA := fun σ H Q => ∃ μ ρ st ds st', Rl K μ ρ st σ H ∧ f ρ st = some (ds, st') ∧
  ∀ μ' H' vs, Fw K μ H μ' H' → StoOk K μ' st' H' → RepL K μ' H' ds vs → Q vs H'
/-- values, no names given -/
inductive RepWs (K : PySem.W.Frag) (H0 : AHp) (μ : List Addr) (H : AHp) : List W → List V → Prop
  | nil : RepWs K H0 μ H [] []
  | cons {w : W} {v : V} {ws : List W} {vs : List V} : RepW K H0 μ H w v → RepWs K H0 μ H ws vs → RepWs K H0 μ H (w :: ws) (v :: vs)
def RdI (K : PySem.W.Frag) (f : Rho → Sto → Option (List W × Sto)) : TA := fun σ H Q => ∃ μ ρ st ws st', Rl K μ ρ st σ H ∧ f ρ st = some (ws, st') ∧
  ∀ μ' H' vs, Fw K μ H μ' H' → StoOk K μ' st' H' → RepWs K H μ' H' ws vs → Q vs H'
/-- what is wanted behind a flow -/
def FlQ (K : PySem.W.Frag) (μ : List Addr) (H : AHp) (D : Ends) (fl : Fl) (ρ' : Rho) (st' : Sto) : Prop := match fl with
  | .nx => ∀ μ' σ' H', Fw K μ H μ' H' → Rl K μ' ρ' st' σ' H' → D.nx σ' H'
  | .bk => ∀ μ' σ' H', Fw K μ H μ' H' → Rl K μ' ρ' st' σ' H' → D.bk σ' H'
  | .ct => ∀ μ' σ' H', Fw K μ H μ' H' → Rl K μ' ρ' st' σ' H' → D.ct σ' H'
  | .rt d => ∀ μ' H' v, Fw K μ H μ' H' → StoOk K μ' st' H' → Rep K μ' H' d v → D.rt v H'
def RdS (K : PySem.W.Frag) (f : Rho → Sto → V2) : TS := fun D σ H => ∃ μ ρ st fl ρ' st', Rl K μ ρ st σ H ∧ f ρ st = some (fl, ρ', st') ∧ FlQ K μ H D fl ρ' st'

/-! the layer's judgements from a weaker reading -/
theorem peW {X : Cx} {e : Expr} {t t' : TE} (h : PE X e t) (k : ∀ σ H Q, t' σ H Q → t σ H Q) : PE X e t' := ⟨fun pins s σ H Q I q => h.run pins s σ H Q I (k σ H Q q)⟩
theorem ptW {X : Cx} {e : Expr} {t t' : TT} (h : PT X e t) (k : ∀ σ H Q, t' σ H Q → t σ H Q) : PT X e t' := ⟨fun pins s σ H Q I q => h.run pins s σ H Q I (k σ H Q q)⟩
theorem pwW {X : Cx} {e : Expr} {t t' : TT} (h : PW X e t) (k : ∀ σ H Q, t' σ H Q → t σ H Q) : PW X e t' := ⟨fun wh pins s σ H Q I q => h.run wh pins s σ H Q I (k σ H Q q)⟩
theorem paW {X : Cx} {e : List Expr} {t t' : TA} (h : PA X e t) (k : ∀ σ H Q, t' σ H Q → t σ H Q) : PA X e t' := ⟨fun p pins s σ H Q I q => h.run p pins s σ H Q I (k σ H Q q)⟩
theorem psW {X : Cx} {e : Stmt} {t t' : TS} (h : PS X e t) (k : ∀ D σ H, t' D σ H → t D σ H) : PS X e t' := ⟨fun pins s σ H D I q => h.run pins s σ H D I (k D σ H q)⟩
theorem pssW {X : Cx} {e : List Stmt} {t t' : TS} (h : PSs X e t) (k : ∀ D σ H, t' D σ H → t D σ H) : PSs X e t' := ⟨fun pins s σ H D I q => h.run pins s σ H D I (k D σ H q)⟩

/-! one part after another -/
section
variable {K : PySem.W.Frag} {μ : List Addr} {ρ : Rho} {st s1 : Sto} {σ : ASt} {H : AHp}
theorem stepW {f : Rho → Sto → V1} {x : W} {Q : VK} (R : Rl K μ ρ st σ H) (h : f ρ st = some (x, s1)) (k : ∀ μ1 H1 v, Fw K μ H μ1 H1 → Rl K μ1 ρ s1 σ H1 → RepW K H μ1 H1 x v → Q v H1) : RdW K f σ H Q :=
  ⟨μ, ρ, st, x, s1, R, h, fun μ1 H1 v f S r => k μ1 H1 v f (R.fw f.toGr S) r⟩
theorem stepT {f : Rho → Sto → Option (Bool × Sto)} {b : Bool} {Q : Bool → AHp → Prop} (R : Rl K μ ρ st σ H) (h : f ρ st = some (b, s1)) (k : ∀ μ1 H1, Fw K μ H μ1 H1 → Rl K μ1 ρ s1 σ H1 → Q b H1) : RdT K f σ H Q :=
  ⟨μ, ρ, st, b, s1, R, h, fun μ1 H1 f S => k μ1 H1 f (R.fw f.toGr S)⟩
theorem stepA {f : Rho → Sto → Option (List D × Sto)} {ds : List D} {Q : List V → AHp → Prop} (R : Rl K μ ρ st σ H) (h : f ρ st = some (ds, s1)) (k : ∀ μ1 H1 vs, Fw K μ H μ1 H1 → Rl K μ1 ρ s1 σ H1 → RepL K μ1 H1 ds vs → Q vs H1) : RdA K f σ H Q :=
  ⟨μ, ρ, st, ds, s1, R, h, fun μ1 H1 v f S r => k μ1 H1 v f (R.fw f.toGr S) r⟩
theorem stepI {f : Rho → Sto → Option (List W × Sto)} {ds : List W} {Q : List V → AHp → Prop} (R : Rl K μ ρ st σ H) (h : f ρ st = some (ds, s1)) (k : ∀ μ1 H1 vs, Fw K μ H μ1 H1 → Rl K μ1 ρ s1 σ H1 → RepWs K H μ1 H1 ds vs → Q vs H1) : RdI K f σ H Q :=
  ⟨μ, ρ, st, ds, s1, R, h, fun μ1 H1 v f S r => k μ1 H1 v f (R.fw f.toGr S) r⟩
/-- a value made later than the beginning -/
theorem RepW.since {μ1 μ2 : List Addr} {H1 H2 : AHp} (f : Fw K μ H μ1 H1) (g : Fw K μ1 H1 μ2 H2) {w : W} {v : V} (r : RepW K H1 μ2 H2 w v) : RepW K H μ2 H2 w v := r.back f fun _ h => g.mem h
end

/-! both directions of x[::-1] -/
def tRevA (K : PySem.W.Frag) (te : TE) : TE := fun σ H Q => te σ H fun x H1 => ∃ a xs, x = .ref a ∧ ((SqL K H1 a xs ∧ ∀ p, H1 p = none → Q (.ref p) (upd H1 p (.lst xs.reverse))) ∨ (SqT K H1 a xs ∧ xs.length ≤ sizeLine ∧ ∀ p, H1 p = none → Q (.ref p) (upd H1 p (.tup xs.reverse))))
theorem pe_revA {X : Cx} {e : Expr} {te : TE} {kk : Nat} {p1 p2 p3 pos : Pos} (he : PE X e te) : PE X (.Subscript e (.Slice none none (some (.UnaryOp .USub (.Constant (.int 1) kk p1) p2)) p3) pos) (tRevA X.K te) := by
  refine ⟨fun pins s σ H Q I h => ?_⟩
  refine Subscript_ (thn (he.run pins s σ H _ I h) fun v s1 ⟨x, H1, I1, r1, a, xs, ex, q1⟩ => ?_)
  subst ex
  cases r1
  have step : PO X (some (.UnaryOp .USub (.Constant (.int 1) kk p1) p2)) (tPart (tUn (rU fun i => .int (-i)) (tC (.int 1)))) := po_some (pe_un un_neg pe_int)
  refine wpAny_Slice (thn (po_none.run pins s1 σ H1 (fun o G => o = none ∧ G = H1) I1 ⟨rfl, rfl⟩) fun vl s2 ⟨l, H2, I2, pl, el, g2⟩ => ?_)
  subst el g2
  refine thn (po_none.run pins s2 σ H2 (fun o G => o = none ∧ G = H2) I2 ⟨rfl, rfl⟩) fun vu s3 ⟨u, H3, I3, pu, eu, g3⟩ => ?_
  subst eu g3
  refine thn (step.run pins s3 σ H3 (fun o G => o = some (-1) ∧ G = H3) I3 ⟨1, rfl, -1, rfl, rfl, rfl⟩) fun vs s4 ⟨o, H4, I4, ps, eo, g4⟩ => ?_
  subst eo g4
  have I5 : Inv X pins σ H4 { s4 with heap := s4.heap.push { cls := .type "slice", data := .fields #[vl, vu, vs] } } := I4.kept (t' := s4.toks) fun b ob w => Heap.get?_push_of_some _ w
  show wpAny (model X.prog X.w) X.A (subscriptTail e (.Slice none none (some (.UnaryOp .USub (.Constant (.int 1) kk p1) p2)) p3) (.ref a) (.ref s4.heap.objs.size)) _ X.xe _
  have plain : subscripted (.Slice none none (some (.UnaryOp .USub (.Constant (.int 1) kk p1) p2)) p3) false (.ref a) (.ref s4.heap.objs.size) = operate [.ref a, .ref s4.heap.objs.size] (getItem (.ref a) (.ref s4.heap.objs.size)) := by
    with_unfolding_all rfl
  rcases q1 with ⟨hx, q⟩ | ⟨hx, hz, q⟩
  · obtain ⟨its, r, ht, hz⟩ := I5.list hx
    have hlen := r.length
    refine tail_any (ops := [.ref a, .ref s4.heap.objs.size]) ht.isList.typeIs (PySem.slot_list_getitem.lookup) ?_ plain
    refine wpAny_getItem_list_slice ht.isList (Heap.IsSliceOf.new _ vl vu vs) pl pu ps (by decide) ?_ (by rw [List.size_toArray]; omega)
    rw [PySem.W.krv_pick]
    refine ⟨.ref _, _, I5.laid (t' := s4.toks) (o := .lst xs.reverse) (fun b ob w => Heap.get?_push_of_some _ w) (Nat.le_refl _) ?_, rfl, q _ (I5.hok.fresh (Nat.le_refl _))⟩
    exact ⟨by simpa using hz, _, 0, r.reverse, Heap.get?_push_size _ rfl⟩
  · obtain ⟨its, r, ht, _⟩ := I5.tuple hx
    have hlen := r.length
    refine tail_any (ops := [.ref a, .ref s4.heap.objs.size]) ht.typeIs (PyProof.Rows.slot_tuple_getitem.lookup) ?_ plain
    refine item_tuple_back ht (Heap.IsSliceOf.new _ vl vu vs) pl pu ps ?_ (by omega)
    refine ⟨.ref _, _, I5.laid (t' := s4.toks) (o := .tup xs.reverse) (fun b ob w => Heap.get?_push_of_some _ w) (Nat.le_refl _) ?_, rfl, q _ (I5.hok.fresh (Nat.le_refl _))⟩
    exact ⟨by simpa using hz, _, r.reverse, IsTup.new _ _⟩
/-! o[i] = v -/
def rSetAll : TSet := fun o i v H Q => rSetL o i v H Q ∨ rSetD o i v H Q
theorem set_all {X : Cx} (hu : X.A.units + 1 < cLine) : PSet X rSetAll := by
  intro pins s σ H o i v ov iv u Q I ro ri rv h
  rcases h with h | h
  · exact set_list pins s σ H o i v ov iv u Q I ro ri rv h
  · exact set_dict hu pins s σ H o i v ov iv u Q I ro ri rv h
end Nx

end

section
set_option maxHeartbeats 1000000
/-! Nx10: defs: what they promise where no text is being made of a thing (guards), their calls, their bodies. -/
namespace Nx
open PySem PySem.Spec PyProof.Rows L2

/-- a def's promise, where no repr runs -/
structure FnG (P : Program) (w : World) (K : PySem.W.Frag) (mg : Str → Option Value) (base : Heap) (k : Nat) (f : Addr) (fd : FuncData) (ps : List Str) (sp : List V → AHp → VK → Prop) : Prop where
  len : ∀ vs H Q, sp vs H Q → vs.length = ps.length
  run : ∀ (A : Around) (outer : List Env) (s : Shared) (H : AHp) (args : Args) (us : List Value) (vs : List V) (Q : VK), Room k A → A.guards = some [] → Env0 P w K mg base A outer s H → BindsTo s fd args (ps.zip us) → Vals vs us → sp vs H Q →
    codeAny (model P w) A (.call (.ref f) args) (CR CX0 outer P w H s Q E0) s

/-- the promise that a function of plain data makes -/
def SpF (K : PySem.W.Frag) (F : List D → Sto → Option (D × Sto)) (n : Nat) : List V → AHp → VK → Prop := fun vs H Q => ∃ μ st ds d st', StoOk K μ st H ∧ RepL K μ H ds vs ∧ ds.length = n ∧ F ds st = some (d, st') ∧
  ∀ μ' H' v, Fw K μ H μ' H' → StoOk K μ' st' H' → Rep K μ' H' d v → Q v H'

section
variable {X : Cx} {k : Nat} {f : Addr} {fd : FuncData} {ps : List Str} {sp : List V → AHp → VK → Prop}
theorem back_of {pins : List (Addr × Obj)} {σ : ASt} {H : AHp} {s s' : Shared} {Q : VK} {r : Result} (I : Inv X pins σ H s) (h : CR CX0 X.stack X.prog X.w H s Q E0 r s') : ∃ u, r = .ok (.ret u) ∧ EP X pins σ Q u s' := by
  cases r with
  | error e => exact False.elim h
  | ok fl =>
    cases fl with
    | ret u => exact ⟨u, rfl, I.after h⟩
    | next => exact False.elim h
    | brk => exact False.elim h
    | cont => exact False.elim h
theorem go_fn {pins : List (Addr × Obj)} {σ : ASt} {H : AHp} {s : Shared} {Q : VK} {us bs : List Value} {kv : List (Str × Value)} {vs : List V} (F : FnG X.prog X.w X.K X.mg X.base k f fd ps sp) (hr : Room k X.A) (hg : X.A.guards = some [])
    (I : Inv X pins σ H s) (hb : BindsTo s fd ⟨us, kv⟩ (ps.zip bs)) (r : Vals vs bs) (h : sp vs H Q) : wpAny (model X.prog X.w) X.A (call (.ref f) us kv) (EP X pins σ Q) X.xe s := by
  refine wpAny_call (codeAny_mono (F.run X.A X.stack s H ⟨us, kv⟩ bs vs Q hr hg I.env0 hb r h) fun r s' hq => ?_)
  obtain ⟨u, rfl, q⟩ := back_of I hq
  exact q
end

/-- a permutation of values -/
theorem permute_rel {K : PySem.W.Frag} {μ : List Addr} {H : AHp} {ds es : List D} {vs : List V} (r : RepL K μ H ds vs) : ∀ {perm : List Nat}, permute perm ds = some es → ∃ ws, perm.mapM (fun i => vs[i]?) = some ws ∧ RepL K μ H es ws := by
  intro perm
  induction perm generalizing es with
  | nil =>
    intro h
    simp [permute] at h
    subst h
    exact ⟨[], rfl, .nil⟩
  | cons i perm ih =>
    intro h
    simp only [permute, List.mapM_cons, Option.bind_eq_bind, Option.bind_eq_some_iff, Option.pure_def, Option.some.injEq] at h
    obtain ⟨d, h1, r', h2, rfl⟩ := h
    obtain ⟨v, g1, g2⟩ := r.get h1
    obtain ⟨ws, g3, g4⟩ := ih h2
    exact ⟨v :: ws, by simp [List.mapM_cons, g1, g3], .cons g2 g4⟩
theorem vals_perm {vs ws : List V} {us : List Value} (r : Vals vs us) : ∀ {perm : List Nat}, perm.mapM (fun i => vs[i]?) = some ws → ∃ bs, perm.mapM (fun i => us[i]?) = some bs ∧ Vals ws bs := by
  intro perm
  induction perm generalizing ws with
  | nil =>
    intro h
    simp at h
    subst h
    exact ⟨[], rfl, .nil⟩
  | cons i perm ih =>
    intro h
    simp only [List.mapM_cons, Option.bind_eq_bind, Option.bind_eq_some_iff, Option.pure_def, Option.some.injEq] at h
    obtain ⟨d, h1, r', h2, rfl⟩ := h
    obtain ⟨v, g1, g2⟩ := r.get h1
    obtain ⟨ws, g3, g4⟩ := ih h2
    exact ⟨v :: ws, by simp [List.mapM_cons, g1, g3], .cons g2 g4⟩

/-- a shape of a call: how many arguments stand by place, the names of the others, where each parameter's value comes from -/
structure Shape where
  n : Nat
  ks : List Str
  perm : List Nat
  deriving DecidableEq
def ShapeOk (K : PySem.W.Frag) (fd : FuncData) (ps : List Str) (sh : Shape) : Prop :=
  ∀ (s : Shared) (us ws bs : List Value), K.In s.heap → us.length = sh.n → ws.length = sh.ks.length → sh.perm.mapM (fun i => (us ++ ws)[i]?) = some bs → BindsTo s fd ⟨us, sh.ks.zip ws⟩ (ps.zip bs)

/-! ### arguments -/
def isStarE : Expr → Bool
  | .Starred .. => true
  | _ => false
theorem star_cons {e : Expr} {es : List Expr} {env : Env} (h : isStarE e = false) : starEach (e :: es) env = (false, eval e env) :: starEach es env := by
  cases e <;> first | rfl | (simp [isStarE] at h)
theorem star_any (pos : Pos) (env : Env) : ∀ {es : List Expr}, es.any isStarE = false → (backTo pos (starEach es env)).any (·.1) = false
  | [], _ => rfl
  | e :: es, h => by
    simp only [List.any_cons, Bool.or_eq_false_iff] at h
    rw [star_cons h.1]
    show (false || (backTo pos (starEach es env)).any (·.1)) = false
    rw [star_any pos env h.2]
    rfl
/-- arguments one by one -/
theorem pa_all {X : Cx} {T : Calls} {c : Expr → C} : ∀ {es : List Expr}, es.any isStarE = false → (∀ e ∈ es, PE X e (RdW X.K (evW T (c e)))) → PA X es (RdA X.K (evA T (es.map c)))
  | [], _, _ => paW pa_nil fun σ H Q ⟨μ, ρ, st, ds, st', R, e, k⟩ => by
    simp only [List.map_nil, evA, Option.some.injEq, Prod.mk.injEq] at e
    obtain ⟨rfl, rfl⟩ := e
    exact k μ H [] (.refl ..) R.sto .nil
  | e :: es, h, g => by
    simp only [List.any_cons, Bool.or_eq_false_iff] at h
    have h1 := g e (by simp)
    have h2 := pa_all (T := T) (c := c) h.2 fun e' he => g e' (by simp [he])
    refine paW (pa_cons h1 h2 (star_cons h.1)) fun σ H Q ⟨μ, ρ, st, ds, st', R, ee, k⟩ => ?_
    simp only [List.map_cons, evA] at ee
    split at ee
    · rename_i x s1 h3
      split at ee
      · rename_i ds s2 h4
        cases ee
        refine stepW R h3 fun μ1 H1 v F1 R1 r1 => ?_
        obtain ⟨μ2, F2, G2, S2, r2⟩ := settle_ok F1 R1.sto r1
        refine stepA (R1.fw G2 S2) h4 fun μ3 H3 vs F3 R3 r3 => ?_
        exact k μ3 H3 (v :: vs) (F2.trans F3) R3.sto (.cons (r2.fw F3.toGr) r3)
      · cases ee
    · cases ee
theorem pi_all {X : Cx} {T : Calls} {c : Expr → C} : ∀ {es : List Expr}, es.any isStarE = false → (∀ e ∈ es, PE X e (RdW X.K (evW T (c e)))) → PA X es (RdI X.K (evI T (es.map c)))
  | [], _, _ => paW pa_nil fun σ H Q ⟨μ, ρ, st, ds, st', R, e, k⟩ => by
    simp only [List.map_nil, evI, Option.some.injEq, Prod.mk.injEq] at e
    obtain ⟨rfl, rfl⟩ := e
    exact k μ H [] (.refl ..) R.sto .nil
  | e :: es, h, g => by
    simp only [List.any_cons, Bool.or_eq_false_iff] at h
    have h1 := g e (by simp)
    have h2 := pi_all (T := T) (c := c) h.2 fun e' he => g e' (by simp [he])
    refine paW (pa_cons h1 h2 (star_cons h.1)) fun σ H Q ⟨μ, ρ, st, ds, st', R, ee, k⟩ => ?_
    simp only [List.map_cons, evI] at ee
    split at ee
    · rename_i x s1 h3
      split at ee
      · rename_i ds s2 h4
        cases ee
        refine stepW R h3 fun μ1 H1 v F1 R1 r1 => ?_
        refine stepI R1 h4 fun μ3 H3 vs F3 R3 r3 => ?_
        refine k μ3 H3 (v :: vs) (F1.trans F3) R3.sto (.cons (r1.fw F3) ?_)
        clear k h4
        induction r3 with
        | nil => exact .nil
        | cons q _ ih => exact .cons (RepW.since F1 F3 q) (ih)
      · cases ee
    · cases ee
theorem pk_all {X : Cx} {T : Calls} {c : Expr → C} : ∀ {kws : List Keyword}, (∀ kw ∈ kws, PE X kw.value (RdW X.K (evW T (c kw.value)))) → PK X kws (RdA X.K (evA T (kws.map fun kw => c kw.value)))
  | [], _ => ⟨fun pos pins s σ H Q I ⟨μ, ρ, st, ds, st', R, e, k⟩ => by
    simp only [List.map_nil, evA, Option.some.injEq, Prod.mk.injEq] at e
    obtain ⟨rfl, rfl⟩ := e
    exact pk_nil.run pos pins s σ H Q I (k μ H [] (.refl ..) R.sto .nil)⟩
  | ⟨nm, ev, kp⟩ :: kws, g => ⟨fun pos pins s σ H Q I ⟨μ, ρ, st, ds, st', R, ee, k⟩ => by
    have h1 := g ⟨nm, ev, kp⟩ (by simp)
    have h2 := pk_all (T := T) (c := c) fun e' he => g e' (List.mem_cons_of_mem _ he)
    refine (pk_cons (nm := nm) (kpos := kp) h1 h2).run pos pins s σ H Q I ?_
    simp only [List.map_cons, evA] at ee
    split at ee
    · rename_i x s1 h3
      split at ee
      · rename_i ds s2 h4
        cases ee
        refine stepW R h3 fun μ1 H1 v F1 R1 r1 => ?_
        obtain ⟨μ2, F2, G2, S2, r2⟩ := settle_ok F1 R1.sto r1
        refine stepA (R1.fw G2 S2) h4 fun μ3 H3 vs F3 R3 r3 => ?_
        exact k μ3 H3 (v :: vs) (F2.trans F3) R3.sto (.cons (r2.fw F3.toGr) r3)
      · cases ee
    · cases ee⟩
theorem evA_append {T : Calls} {ρ : Rho} : ∀ {as bs : List C} {st st' : Sto} {ds : List D}, evA T (as ++ bs) ρ st = some (ds, st') → ∃ ds1 s1 ds2, evA T as ρ st = some (ds1, s1) ∧ evA T bs ρ s1 = some (ds2, st') ∧ ds = ds1 ++ ds2
  | [], bs, st, st', ds, h => ⟨[], st, ds, by simp [evA], h, rfl⟩
  | a :: as, bs, st, st', ds, h => by
    simp only [List.cons_append, evA] at h ⊢
    split at h
    · rename_i x s1 h1
      split at h
      · rename_i ds0 s2 h2
        cases h
        obtain ⟨d1, t1, d2, g1, g2, g3⟩ := evA_append h2
        subst g3
        exact ⟨(settle x s1).1 :: d1, t1, d2, by simp [h1, g1], g2, rfl⟩
      · cases h
    · cases h

theorem evA_length {T : Calls} {ρ : Rho} : ∀ {as : List C} {st st' : Sto} {ds : List D}, evA T as ρ st = some (ds, st') → ds.length = as.length
  | [], st, st', ds, h => by simp [evA] at h; obtain ⟨rfl, _⟩ := h; rfl
  | a :: as, st, st', ds, h => by
    simp only [evA] at h
    split at h
    · split at h
      · rename_i h2
        cases h
        simp [evA_length h2]
      · cases h
    · cases h

/-! ### calls -/
section
variable {X : Cx} {k : Nat} {f : Addr} {fd : FuncData} {ps : List Str} {T : Calls} {fid : Nat} {x : Str} {p pos : Pos}
/-- what a call is known of -/
structure CallOk (X : Cx) (T : Calls) (k : Nat) (x : Str) (fid : Nat) (sh : Shape) : Prop where
  ex : ∃ (f : Addr) (fd : FuncData) (ps : List Str), X.mg x = some (.ref f) ∧ PySem.W.keepIn X.K (.ref f) = true ∧ FnG X.prog X.w X.K X.mg X.base k f fd ps (SpF X.K (T fid) ps.length) ∧ ShapeOk X.K fd ps sh ∧ sh.perm.length = ps.length
theorem permute_length {perm : List Nat} {ds es : List D} (h : permute perm ds = some es) : es.length = perm.length := by
  induction perm generalizing es with
  | nil => simp [permute] at h; subst h; rfl
  | cons i perm ih =>
    simp only [permute, List.mapM_cons, Option.bind_eq_bind, Option.bind_eq_some_iff, Option.pure_def, Option.some.injEq] at h
    obtain ⟨d, h1, r', h2, rfl⟩ := h
    simp [ih h2]
theorem call_go {sh : Shape} (c : CallOk X T k x fid sh) (hr : Room k X.A) (hg : X.A.guards = some []) : ∃ f, X.mg x = some (.ref f) ∧ PySem.W.keepIn X.K (.ref f) = true ∧
    ∀ (pins : List (Addr × Obj)) (σ : ASt) (H : AHp) (s : Shared) (Q : VK) (us ws : List Value) (vs zs : List V) (μ : List Addr) (st st' : Sto) (ds es : List D) (d : D), Inv X pins σ H s → Vals vs us → Vals zs ws → us.length = sh.n → ws.length = sh.ks.length →
      StoOk X.K μ st H → RepL X.K μ H ds (vs ++ zs) → permute sh.perm ds = some es → T fid es st = some (d, st') →
      (∀ μ' H' v, Fw X.K μ H μ' H' → StoOk X.K μ' st' H' → Rep X.K μ' H' d v → Q v H') →
      wpAny (model X.prog X.w) X.A (call (.ref f) us (sh.ks.zip ws)) (EP X pins σ Q) X.xe s := by
  obtain ⟨f, fd, ps, hm, hk, F, hs, hl⟩ := c.ex
  refine ⟨f, hm, hk, fun pins σ H s Q us ws vs zs μ st st' ds es d I r1 r2 l1 l2 S rep hp ht q => ?_⟩
  obtain ⟨qs, h1, h2⟩ := permute_rel rep hp
  obtain ⟨bs, h3, h4⟩ := vals_perm (r1.append r2) h1
  exact go_fn F hr hg I (hs s us ws bs I.kIn l1 l2 h3) h4 ⟨μ, st, es, d, st', S, h2, (permute_length hp).trans hl, ht, q⟩
/-- the names of keywords -/
def kwNames (kws : List Keyword) : List Str := kws.filterMap (·.arg)
theorem kw_all (pos : Pos) (env : Env) : ∀ {kws : List Keyword}, kws.all (·.arg.isSome) = true → (backToKw pos (keywordEach kws env)).all (·.1.isSome) = true ∧ (backToKw pos (keywordEach kws env)).filterMap (·.1) = kwNames kws ∧ (backToKw pos (keywordEach kws env)).any (·.1.isNone) = false
  | [], _ => ⟨rfl, rfl, rfl⟩
  | ⟨nm, e, kp⟩ :: kws, h => by
    simp only [List.all_cons, Bool.and_eq_true] at h
    obtain ⟨h1, h2, h3⟩ := kw_all pos env (kws := kws) h.2
    cases nm with
    | none => simp at h
    | some n =>
      refine ⟨?_, ?_, ?_⟩
      · show (true && (backToKw pos (keywordEach kws env)).all (·.1.isSome)) = true
        rw [h1]
        rfl
      · show n :: (backToKw pos (keywordEach kws env)).filterMap (·.1) = _
        rw [h2]
        rfl
      · show (false || (backToKw pos (keywordEach kws env)).any (·.1.isNone)) = false
        rw [h3]
        rfl
/-- f(e, .., k = v, ..) -/
theorem ew_call {sh : Shape} {es : List Expr} {kws : List Keyword} {ce : Expr → C} (c : CallOk X T k x fid sh) (hr : Room k X.A) (hg : X.A.guards = some []) (hgl : Gl X x) (hd : (x == ("__debug__" : Str)) = false)
    (hst : es.any isStarE = false) (hall : kws.all (·.arg.isSome) = true) (hn : es.length = sh.n) (hks : kwNames kws = sh.ks)
    (ha : ∀ e ∈ es, PE X e (RdW X.K (evW T (ce e)))) (hk : ∀ kw ∈ kws, PE X kw.value (RdW X.K (evW T (ce kw.value)))) :
    PE X (.Call (.Name x p) es kws pos) (RdW X.K (evW T (.call fid (es.map ce ++ kws.map fun kw => ce kw.value) sh.perm))) := by
  obtain ⟨f, hm, hkp, go⟩ := call_go c hr hg
  have pa := pa_all (T := T) (c := ce) hst ha
  have pk := pk_all (T := T) (c := ce) hk
  obtain ⟨k1, k2, k3⟩ := kw_all pos X.env hall
  have hkl : kws.length = sh.ks.length := by
    rw [← hks]
    unfold kwNames
    clear hks pk hk k1 k2 k3
    induction kws with
    | nil => rfl
    | cons a r ih =>
      simp only [List.all_cons, Bool.and_eq_true] at hall
      obtain ⟨n, e⟩ := Option.isSome_iff_exists.mp hall.1
      rw [List.filterMap_cons, e]
      simp [ih hall.2]
  refine ⟨fun pins s σ H Q I ⟨μ, ρ, st, w, st', R, ee, kk⟩ => ?_⟩
  simp only [evW] at ee
  split at ee
  · rename_i ds s1 h1
    split at ee
    · rename_i es' h2
      split at ee
      · rename_i d s2 h3
        obtain ⟨rfl, rfl⟩ := vD_inj ee
        obtain ⟨d1, t1, d2, g1, g2, rfl⟩ := evA_append h1
        refine wpAny_Call_Name_kw (ld_glob I hgl hm ?_ hd)
        have fin : ∀ (s' : Shared) (us ws : List Value) (vs zs : List V) (μ1 μ2 : List Addr) (H1 H2 : AHp), Fw X.K μ H μ1 H1 → Fw X.K μ1 H1 μ2 H2 → Rl X.K μ2 ρ s1 σ H2 → RepL X.K μ1 H1 d1 vs → RepL X.K μ2 H2 d2 zs → Inv X pins σ H2 s' → Vals vs us → Vals zs ws →
            wpAny (model X.prog X.w) X.A (call (.ref f) us (sh.ks.zip ws)) (EP X pins σ Q) X.xe s' := by
          intro s' us ws vs zs μ1 μ2 H1 H2 F1 F2 R2 r1 r2 I2 e1 e2
          have l1 : us.length = sh.n := by
            rw [← e1.length, ← r1.length, ← hn]
            have := evA_length g1
            simpa using this
          have l2 : ws.length = sh.ks.length := by
            rw [← e2.length, ← r2.length, ← hkl]
            have := evA_length g2
            simpa using this
          exact go pins σ H2 s' Q us ws vs zs μ2 s1 _ _ es' d I2 e1 e2 l1 l2 R2.sto ((r1.fw F2.toGr).append r2) h2 h3 fun μ3 H3 v F3 S3 r3 => kk μ3 H3 v ((F1.trans F2).trans F3) S3 r3
        cases es with
        | nil =>
          simp only [List.map_nil, evA, Option.some.injEq, Prod.mk.injEq] at g1
          obtain ⟨rfl, rfl⟩ := g1
          have hst0 : starEach [] X.env = [] := rfl
          refine PySem.W.callWith_KW0 (h₀ := X.base) I.ok.mod.kin hkp k1 ?_ (by rw [hst0, k3]; rfl)
          refine thn (pk.run pos pins s σ H (fun zs H2 => ∃ μ2, Fw X.K μ H μ2 H2 ∧ Rl X.K μ2 ρ s1 σ H2 ∧ RepL X.K μ2 H2 d2 zs) I (stepA R g2 fun μ2 H2 zs F2 R2 r2 => ⟨μ2, F2, R2, r2⟩)) fun ws s2' ⟨zs, H2, I2, e2, μ2, F2, R2, r2⟩ => ⟨I2.kIn, ?_⟩
          rw [k2, hks]
          exact fin s2' [] ws [] zs μ μ2 H H2 (.refl ..) F2 R2 .nil r2 I2 .nil e2
        | cons e es =>
          simp only [List.any_cons, Bool.or_eq_false_iff] at hst
          refine PySem.W.callWith_KW (h₀ := X.base) I.ok.mod.kin hkp k1 ?_ (by rw [star_any pos X.env (by simp only [List.any_cons, Bool.or_eq_false_iff]; exact hst), k3]; rfl) (star_cons hst.1)
          refine thn (pa.run pos pins s σ H (fun vs H1 => ∃ μ1, Fw X.K μ H μ1 H1 ∧ Rl X.K μ1 ρ t1 σ H1 ∧ RepL X.K μ1 H1 d1 vs) I (stepA R g1 fun μ1 H1 vs F1 R1 r1 => ⟨μ1, F1, R1, r1⟩)) fun us s1' ⟨vs, H1, I1, e1, μ1, F1, R1, r1⟩ => ?_
          refine thn (pk.run pos pins s1' σ H1 (fun zs H2 => ∃ μ2, Fw X.K μ1 H1 μ2 H2 ∧ Rl X.K μ2 ρ s1 σ H2 ∧ RepL X.K μ2 H2 d2 zs) I1 (stepA R1 g2 fun μ2 H2 zs F2 R2 r2 => ⟨μ2, F2, R2, r2⟩)) fun ws s2' ⟨zs, H2, I2, e2, μ2, F2, R2, r2⟩ => ⟨I2.kIn, ?_⟩
          rw [k2, hks]
          exact fin s2' us ws vs zs μ1 μ2 H1 H2 F1 F2 R2 r1 r2 I2 e1 e2
      · cases ee
    · cases ee
  · cases ee
end
end Nx

end

section
set_option maxHeartbeats 1000000
/-! Nx11: each form of expression: its reading is what the small language computes. -/
namespace Nx
open PySem PySem.Spec PyProof.Rows L2

/-- a test of the small language -/
def tsW (T : Calls) (c : C) (ρ : Rho) (st : Sto) : Option (Bool × Sto) := match evW T c ρ st with
  | some (x, s1) => match truth s1 x with
    | some b => some (b, s1)
    | none => none
  | none => none
abbrev PEc (X : Cx) (T : Calls) (e : Expr) (c : C) : Prop := PE X e (RdW X.K (evW T c))
abbrev PTc (X : Cx) (T : Calls) (e : Expr) (c : C) : Prop := PT X e (RdT X.K (tsW T c))

theorem ts_inj {T : Calls} {c : C} {ρ : Rho} {st st' : Sto} {b : Bool} (h : tsW T c ρ st = some (b, st')) : ∃ x, evW T c ρ st = some (x, st') ∧ truth st' x = some b := by
  unfold tsW at h
  split at h
  · rename_i x s1 h1
    split at h
    · rename_i b' h2
      cases h
      exact ⟨x, h1, h2⟩
    · cases h
  · cases h
theorem ts_mk {T : Calls} {c : C} {ρ : Rho} {st st' : Sto} {b : Bool} {x : W} (h : evW T c ρ st = some (x, st')) (h2 : truth st' x = some b) : tsW T c ρ st = some (b, st') := by
  unfold tsW
  rw [h]
  show (match truth st' x with | some b => some (b, st') | none => none) = _
  rw [h2]

section
variable {X : Cx} {T : Calls} {a b c e o i : Expr} {rest : List Expr} {ca cb cc ce : C} {pos p p2 apos cpos : Pos}

theorem pe_stuck : PEc X T e .stuck := ⟨fun pins s σ H Q I ⟨μ, ρ, st, w, st', R, h, k⟩ => by
  simp [evW] at h⟩
theorem pt_stuck : PTc X T e .stuck := ⟨fun pins s σ H Q I ⟨μ, ρ, st, w, st', R, h, k⟩ => by
  simp [tsW, evW] at h⟩
/-- a constant -/
theorem e_const {d : D} {v : V} (h : PE X e (tC v)) (r : ∀ μ H, Rep X.K μ H d v) : PEc X T e (.k d) := peW h fun σ H Q ⟨μ, ρ, st, w, st', R, g, k⟩ => by
  simp only [evW, vD, Option.some.injEq, Prod.mk.injEq] at g
  obtain ⟨rfl, rfl⟩ := g
  exact k μ H v (.refl ..) R.sto (r μ H)
theorem e_var {j : Nat} {x : Str} (hN : X.N[j]? = some x) (hv : Vis X.env.scope x) (hd : (x == ("__debug__" : Str)) = false) (hcd : (x == ("__classdict__" : Str)) = false) : PEc X T (.Name x pos) (.v j) := peW (pe_var hN hv hd hcd) fun σ H Q ⟨μ, ρ, st, w, st', R, g, k⟩ => by
  simp only [evW] at g
  split at g
  · rename_i d h1
    obtain ⟨rfl, rfl⟩ := vD_inj g
    obtain ⟨v, h2, h3⟩ := R.env j d h1
    exact ⟨v, h2, k μ H v (.refl ..) R.sto h3⟩
  · cases g
/-- one value -/
theorem e_one {f : P1} {r : V → AHp → VK → Prop} {t : TE} (k1 : K1 X.K f r) (h : PE X e t) (ht : ∀ σ H Q, tUn r (RdW X.K (evW T ca)) σ H Q → t σ H Q) : PEc X T e (.p1 f ca) := peW h fun σ H Q ⟨μ, ρ, st, w, st', R, g, k⟩ => by
  refine ht σ H Q ?_
  simp only [evW] at g
  split at g
  · rename_i x s1 h1
    exact stepW R h1 fun μ1 H1 v F1 R1 r1 => k1 μ H μ1 H1 s1 x v w st' Q F1 R1.sto r1 g k
  · cases g
/-- two values -/
theorem e_two {f : P2} {r : R2} {t : TE} (k2 : K2 X.K f r) (h : PE X e t) (ht : ∀ σ H Q, tOp r (RdW X.K (evW T ca)) (RdW X.K (evW T cb)) σ H Q → t σ H Q) : PEc X T e (.p2 f ca cb) := peW h fun σ H Q ⟨μ, ρ, st, w, st', R, g, k⟩ => by
  refine ht σ H Q ?_
  simp only [evW] at g
  split at g
  · rename_i x s1 h1
    split at g
    · rename_i y s2 h2
      exact stepW R h1 fun μ1 H1 v F1 R1 r1 => stepW R1 h2 fun μ2 H2 u F2 R2 r2 => k2 μ H μ2 H2 s2 x y v u w st' Q (F1.trans F2) R2.sto (r1.fw F2) (RepW.since F1 F2 r2) g k
    · cases g
  · cases g
theorem e_bin {op : Operator} {f : P2} {r : R2} (k2 : K2 X.K f r) (ho : OpR X (binaryOp op) r) (ha : PEc X T a ca) (hb : PEc X T b cb) : PEc X T (.BinOp a op b pos) (.p2 f ca cb) := e_two k2 (pe_op ho ha hb) fun _ _ _ h => h
theorem e_cmp {op : CmpOp} {f : P2} {r : R2} (k2 : K2 X.K f r) (ho : OpR X (compareOp op) r) (ha : PEc X T a ca) (hb : PEc X T b cb) (hm : behindInMarks op b = false) : PEc X T (.Compare a [op] [b] pos) (.p2 f ca cb) := e_two k2 (pe_cmpR ho ha hb hm) fun _ _ _ h => h
/-- what a comparison gives is a truth value, where it is a test -/
theorem op2_bool {f : P2} {x y w : W} {st st' : Sto} (hf : f ∈ [P2.eq, P2.ne, P2.lt, P2.le, P2.gt, P2.ge, P2.inn, P2.nin, P2.is, P2.isn]) (h : op2 f x y st = some (w, st')) : ∃ b, w = .val (.bl b) ∧ st' = st := by
  simp only [List.mem_cons, List.not_mem_nil, or_false] at hf
  rcases hf with rfl | rfl | rfl | rfl | rfl | rfl | rfl | rfl | rfl | rfl <;> simp only [op2] at h <;> (repeat' split at h) <;> first
    | (cases h; done)
    | (obtain ⟨rfl, rfl⟩ := vB_inj h; exact ⟨_, rfl, rfl⟩)
theorem truth_bl {st : Sto} {b c : Bool} (h : truth st (.val (.bl b)) = some c) : c = b := by
  simp only [truth, Option.some.injEq] at h
  exact h.symm
theorem repW_bl {K : PySem.W.Frag} {H0 : AHp} {μ : List Addr} {H : AHp} {b : Bool} {z : V} (r : RepW K H0 μ H (.val (.bl b)) z) : z = .bl b := by
  cases r
  rfl
/-- a comparison as a test -/
theorem t_cmp {op : CmpOp} {f : P2} {r : R2} (hf : f ∈ [P2.eq, P2.ne, P2.lt, P2.le, P2.gt, P2.ge, P2.inn, P2.nin, P2.is, P2.isn]) (k2 : K2 X.K f r) (ho : OpR X (compareOp op) r) (ha : PEc X T a ca) (hb : PEc X T b cb) (hm : behindInMarks op b = false) :
    PTc X T (.Compare a [op] [b] pos) (.p2 f ca cb) := ptW (pt_cmpR ho ha hb hm) fun σ H Q ⟨μ, ρ, st, c, st', R, g, k⟩ => by
  obtain ⟨w, g1, g2⟩ := ts_inj g
  simp only [evW] at g1
  split at g1
  · rename_i x s1 h1
    split at g1
    · rename_i y s2 h2
      refine stepW R h1 fun μ1 H1 v F1 R1 r1 => stepW R1 h2 fun μ2 H2 u F2 R2 r2 => k2 μ H μ2 H2 s2 x y v u w st' _ (F1.trans F2) R2.sto (r1.fw F2) (RepW.since F1 F2 r2) g1 fun μ3 H3 z F3 S3 r3 => ?_
      obtain ⟨d, rfl, rfl⟩ := op2_bool hf g1
      cases truth_bl g2
      exact ⟨c, repW_bl r3, k μ3 H3 F3 S3⟩
    · cases g1
  · cases g1
/-- a op b op' c -/
theorem chain_go {f f' : P2} {r r' : R2} (hf : f ∈ [P2.eq, P2.ne, P2.lt, P2.le, P2.gt, P2.ge, P2.inn, P2.nin, P2.is, P2.isn]) (k2 : K2 X.K f r) (k2' : K2 X.K f' r') {σ : ASt} {H : AHp} {Q : VK} (h : RdW X.K (evW T (.chain f f' ca cb cc)) σ H Q) :
    tChain r r' (RdW X.K (evW T ca)) (RdW X.K (evW T cb)) (RdW X.K (evW T cc)) σ H Q := by
  obtain ⟨μ, ρ, st, w, st', R, g, k⟩ := h
  simp only [evW] at g
  split at g
  · rename_i x s1 h1
    split at g
    · rename_i y s2 h2
      refine stepW R h1 fun μ1 H1 v F1 R1 r1 => stepW R1 h2 fun μ2 H2 u F2 R2 r2 => ?_
      split at g
      · rename_i s3 h3
        split at g
        · rename_i z s4 h4
          refine k2 μ2 H2 μ2 H2 s2 (.val x) (.val y) v u _ s3 _ (.refl ..) R2.sto (Rep.fw F2.toGr r1) r2 h3 fun μ3 H3 t F3 S3 r3 => ?_
          obtain ⟨_, _, rfl⟩ := op2_bool hf h3
          refine ⟨true, repW_bl r3, ?_⟩
          rw [if_pos rfl]
          refine stepW (R2.fw F3.toGr S3) h4 fun μ4 H4 t2 F4 R4 r4 => ?_
          have F3' := (F1.trans F2).trans F3
          exact k2' μ H μ4 H4 s4 (.val y) z u t2 w st' Q (F3'.trans F4) R4.sto (Rep.fw (F3.trans F4).toGr r2) (RepW.since F3' F4 r4) g k
        · cases g
      · rename_i s3 h3
        obtain ⟨rfl, rfl⟩ := vB_inj g
        refine k2 μ2 H2 μ2 H2 s2 (.val x) (.val y) v u _ _ _ (.refl ..) R2.sto (Rep.fw F2.toGr r1) r2 h3 fun μ3 H3 t F3 S3 r3 => ?_
        obtain ⟨_, _, rfl⟩ := op2_bool hf h3
        refine ⟨false, repW_bl r3, ?_⟩
        rw [if_neg Bool.false_ne_true]
        exact k μ3 H3 (.bl false) ((F1.trans F2).trans F3) S3 (Rep.bl false)
      · cases g
    · cases g
  · cases g
theorem e_chain {op op' : CmpOp} {f f' : P2} {r r' : R2} (hf : f ∈ [P2.eq, P2.ne, P2.lt, P2.le, P2.gt, P2.ge, P2.inn, P2.nin, P2.is, P2.isn]) (k2 : K2 X.K f r) (k2' : K2 X.K f' r') (ho : OpR X (compareOp op) r) (ho' : OpR X (compareOp op') r') (ha : PEc X T a ca) (hb : PEc X T b cb) (hc : PEc X T c cc)
    (hm : lastMarks [op, op'] [b, c] = false) : PEc X T (.Compare a [op, op'] [b, c] pos) (.chain f f' ca cb cc) := peW (pe_chain ho ho' ha hb hc hm) fun _ _ _ h => chain_go hf k2 k2' h
/-- a value that is a bool, as a test -/
theorem chain_bool {f f' : P2} {ρ : Rho} {st st' : Sto} {w : W} (hf : f' ∈ [P2.eq, P2.ne, P2.lt, P2.le, P2.gt, P2.ge, P2.inn, P2.nin, P2.is, P2.isn]) (g : evW T (.chain f f' ca cb cc) ρ st = some (w, st')) : ∃ b, w = .val (.bl b) := by
  simp only [evW] at g
  repeat' split at g
  all_goals first
    | (cases g; done)
    | exact ⟨_, (vB_inj g).1⟩
    | (obtain ⟨b, h, _⟩ := op2_bool (f := f') hf g; exact ⟨b, h⟩)
theorem t_chain {op op' : CmpOp} {f f' : P2} {r r' : R2} (hf : f ∈ [P2.eq, P2.ne, P2.lt, P2.le, P2.gt, P2.ge, P2.inn, P2.nin, P2.is, P2.isn]) (hf' : f' ∈ [P2.eq, P2.ne, P2.lt, P2.le, P2.gt, P2.ge, P2.inn, P2.nin, P2.is, P2.isn]) (k2 : K2 X.K f r) (k2' : K2 X.K f' r') (ho : OpR X (compareOp op) r) (ho' : OpR X (compareOp op') r')
    (ha : PEc X T a ca) (hb : PEc X T b cb) (hc : PEc X T c cc) (hm : lastMarks [op, op'] [b, c] = false) : PTc X T (.Compare a [op, op'] [b, c] pos) (.chain f f' ca cb cc) := ptW (pt_chain ho ho' ha hb hc hm) fun σ H Q ⟨μ, ρ, st, d, st', R, g, k⟩ => by
  obtain ⟨w, g1, g2⟩ := ts_inj g
  obtain ⟨b, rfl⟩ := chain_bool hf' g1
  refine chain_go hf k2 k2' ⟨μ, ρ, st, _, st', R, g1, fun μ' H' v F S r => ?_⟩
  cases truth_bl g2
  exact ⟨d, repW_bl r, k μ' H' F S⟩

/-! and, or, not, if -/
theorem e_not (ha : PEc X T a ca) : PEc X T (.UnaryOp .Not a pos) (.p1 .not ca) := peW (pe_notT ha) fun σ H Q ⟨μ, ρ, st, w, st', R, g, k⟩ => by
  simp only [evW] at g
  split at g
  · rename_i x s1 h1
    simp only [op1] at g
    split at g
    · rename_i d h2
      obtain ⟨rfl, rfl⟩ := vB_inj g
      exact stepW R h1 fun μ1 H1 v F1 R1 r1 => ⟨d, tru_of R1.sto r1 h2, k μ1 H1 _ F1 R1.sto (Rep.bl _)⟩
    · cases g
  · cases g
theorem e_or (ha : PEc X T a ca) (hb : PE X (.BoolOp .Or (b :: rest) pos) (RdW X.K (evW T cb))) : PEc X T (.BoolOp .Or (a :: b :: rest) pos) (.or ca cb) := peW (pe_orT ha hb) fun σ H Q ⟨μ, ρ, st, w, st', R, g, k⟩ => by
  simp only [evW] at g
  split at g
  · rename_i x s1 h1
    refine stepW R h1 fun μ1 H1 v F1 R1 r1 => ?_
    split at g
    · rename_i h2
      refine ⟨false, tru_of R1.sto r1 h2, ?_⟩
      rw [if_neg Bool.false_ne_true]
      exact stepW R1 g fun μ2 H2 u F2 R2 r2 => k μ2 H2 u (F1.trans F2) R2.sto (RepW.since F1 F2 r2)
    · rename_i h2
      cases g
      refine ⟨true, tru_of R1.sto r1 h2, ?_⟩
      rw [if_pos rfl]
      exact k μ1 H1 v F1 R1.sto r1
    · cases g
  · cases g
theorem e_and (ha : PEc X T a ca) (hb : PE X (.BoolOp .And (b :: rest) pos) (RdW X.K (evW T cb))) : PEc X T (.BoolOp .And (a :: b :: rest) pos) (.and ca cb) := peW (pe_andT ha hb) fun σ H Q ⟨μ, ρ, st, w, st', R, g, k⟩ => by
  simp only [evW] at g
  split at g
  · rename_i x s1 h1
    refine stepW R h1 fun μ1 H1 v F1 R1 r1 => ?_
    split at g
    · rename_i h2
      refine ⟨true, tru_of R1.sto r1 h2, ?_⟩
      rw [if_pos rfl]
      exact stepW R1 g fun μ2 H2 u F2 R2 r2 => k μ2 H2 u (F1.trans F2) R2.sto (RepW.since F1 F2 r2)
    · rename_i h2
      cases g
      refine ⟨false, tru_of R1.sto r1 h2, ?_⟩
      rw [if_neg Bool.false_ne_true]
      exact k μ1 H1 v F1 R1.sto r1
    · cases g
  · cases g
/-- tests -/
theorem t_not (ha : PTc X T a ca) : PTc X T (.UnaryOp .Not a pos) (.p1 .not ca) := ptW (pt_not ha) fun σ H Q ⟨μ, ρ, st, d, st', R, g, k⟩ => by
  obtain ⟨w, g1, g2⟩ := ts_inj g
  simp only [evW] at g1
  split at g1
  · rename_i x s1 h1
    simp only [op1] at g1
    split at g1
    · rename_i c h2
      obtain ⟨rfl, rfl⟩ := vB_inj g1
      cases truth_bl g2
      exact stepT R (ts_mk h1 h2) fun μ1 H1 F1 R1 => k μ1 H1 F1 R1.sto
    · cases g1
  · cases g1
abbrev PWc (X : Cx) (T : Calls) (e : Expr) (c : C) : Prop := PW X e (RdT X.K (tsW T c))
theorem t_and (ha : PTc X T a ca) (hb : PWc X T (.BoolOp .And (b :: rest) pos) cb) : PWc X T (.BoolOp .And (a :: b :: rest) pos) (.and ca cb) := pwW (pw_and ha hb) fun σ H Q ⟨μ, ρ, st, d, st', R, g, k⟩ => by
  obtain ⟨w, g1, g2⟩ := ts_inj g
  simp only [evW] at g1
  split at g1
  · rename_i x s1 h1
    split at g1
    · rename_i h2
      refine stepT R (ts_mk h1 h2) fun μ1 H1 F1 R1 => ?_
      rw [if_pos rfl]
      exact stepT R1 (ts_mk g1 g2) fun μ2 H2 F2 R2 => k μ2 H2 (F1.trans F2) R2.sto
    · rename_i h2
      cases g1
      rw [h2] at g2
      cases g2
      refine stepT R (ts_mk h1 h2) fun μ1 H1 F1 R1 => ?_
      rw [if_neg Bool.false_ne_true]
      exact k μ1 H1 F1 R1.sto
    · cases g1
  · cases g1
theorem t_or (ha : PTc X T a ca) (hb : PWc X T (.BoolOp .Or (b :: rest) pos) cb) : PWc X T (.BoolOp .Or (a :: b :: rest) pos) (.or ca cb) := pwW (pw_or ha hb) fun σ H Q ⟨μ, ρ, st, d, st', R, g, k⟩ => by
  obtain ⟨w, g1, g2⟩ := ts_inj g
  simp only [evW] at g1
  split at g1
  · rename_i x s1 h1
    split at g1
    · rename_i h2
      refine stepT R (ts_mk h1 h2) fun μ1 H1 F1 R1 => ?_
      rw [if_neg Bool.false_ne_true]
      exact stepT R1 (ts_mk g1 g2) fun μ2 H2 F2 R2 => k μ2 H2 (F1.trans F2) R2.sto
    · rename_i h2
      cases g1
      rw [h2] at g2
      cases g2
      refine stepT R (ts_mk h1 h2) fun μ1 H1 F1 R1 => ?_
      rw [if_pos rfl]
      exact k μ1 H1 F1 R1.sto
    · cases g1
  · cases g1
/-- the parts of x if c else y -/
theorem e_ite (hc : PTc X T c cc) (ha : PEc X T a ca) (hb : PEc X T b cb) : PEc X T (.IfExp c a b pos) (.ite cc ca cb) := peW (pe_ifExp hc ha hb) fun σ H Q ⟨μ, ρ, st, w, st', R, g, k⟩ => by
  simp only [evW] at g
  split at g
  · rename_i x s1 h1
    split at g
    · rename_i h2
      refine stepT R (ts_mk h1 h2) fun μ1 H1 F1 R1 => ?_
      rw [if_pos rfl]
      exact stepW R1 g fun μ2 H2 u F2 R2 r2 => k μ2 H2 u (F1.trans F2) R2.sto (RepW.since F1 F2 r2)
    · rename_i h2
      refine stepT R (ts_mk h1 h2) fun μ1 H1 F1 R1 => ?_
      rw [if_neg Bool.false_ne_true]
      exact stepW R1 g fun μ2 H2 u F2 R2 r2 => k μ2 H2 u (F1.trans F2) R2.sto (RepW.since F1 F2 r2)
    · cases g
  · cases g
def tIfT (t ta tb : TT) : TT := fun σ H Q => t σ H fun c H1 => if c = true then ta σ H1 Q else tb σ H1 Q
theorem pt_ifExp {t ta tb : TT} (hc : PT X c t) (ha : PT X a ta) (hb : PT X b tb) : PT X (.IfExp c a b pos) (tIfT t ta tb) := by
  constructor
  intro pins s σ H Q I h
  refine isTrue_IfExp (thn (hc.run pins s σ H _ I h) fun v s2 ⟨H1, I1, q1⟩ => ?_)
  cases v with
  | true => rw [if_pos rfl] at q1 ⊢; exact ha.run pins s2 σ H1 Q I1 q1
  | false => rw [if_neg Bool.false_ne_true] at q1 ⊢; exact hb.run pins s2 σ H1 Q I1 q1
theorem t_ite (hc : PTc X T c cc) (ha : PTc X T a ca) (hb : PTc X T b cb) : PTc X T (.IfExp c a b pos) (.ite cc ca cb) := ptW (pt_ifExp hc ha hb) fun σ H Q ⟨μ, ρ, st, d, st', R, g, k⟩ => by
  obtain ⟨w, g1, g2⟩ := ts_inj g
  simp only [evW] at g1
  split at g1
  · rename_i x s1 h1
    split at g1
    · rename_i h2
      refine stepT R (ts_mk h1 h2) fun μ1 H1 F1 R1 => ?_
      rw [if_pos rfl]
      exact stepT R1 (ts_mk g1 g2) fun μ2 H2 F2 R2 => k μ2 H2 (F1.trans F2) R2.sto
    · rename_i h2
      refine stepT R (ts_mk h1 h2) fun μ1 H1 F1 R1 => ?_
      rw [if_neg Bool.false_ne_true]
      exact stepT R1 (ts_mk g1 g2) fun μ2 H2 F2 R2 => k μ2 H2 (F1.trans F2) R2.sto
    · cases g1
  · cases g1
/-- any other form as a test -/
theorem t_truth (ha : PEc X T a ca) (he : ∀ whole, isTrue a X.env whole = (do let v ← whole; standAt a.pos; holding [v] (truthy v))) : PTc X T a ca := ptW (pt_truth ha he) fun σ H Q ⟨μ, ρ, st, d, st', R, g, k⟩ => by
  obtain ⟨w, g1, g2⟩ := ts_inj g
  exact stepW R g1 fun μ1 H1 v F1 R1 r1 => ⟨d, tru_of R1.sto r1 g2, k μ1 H1 F1 R1.sto⟩

/-! displays -/
theorem e_tup {es : List Expr} {f : Expr → C} {kk : Nat} (hst : es.any isStarE = false) (h : ∀ e ∈ es, PEc X T e (f e)) : PEc X T (.Tuple es kk pos) (.tup (es.map f)) := peW (pe_tup (pa_all hst h)) fun σ H Q ⟨μ, ρ, st, w, st', R, g, k⟩ => by
  simp only [evW] at g
  split at g
  · rename_i ds s1 h1
    split at g
    · rename_i hz
      obtain ⟨rfl, rfl⟩ := vD_inj g
      refine stepA R h1 fun μ1 H1 vs F1 R1 r1 => ?_
      have z : vs.length ≤ sizeLine := by rw [← r1.length]; exact hz
      exact ⟨z, new_tup F1 R1.sto z r1 k⟩
    · cases g
  · cases g
theorem e_lst {es : List Expr} {f : Expr → C} (hst : es.any isStarE = false) (h : ∀ e ∈ es, PEc X T e (f e)) : PEc X T (.List es pos) (.lst (es.map f)) := peW (pe_lst (pa_all hst h)) fun σ H Q ⟨μ, ρ, st, w, st', R, g, k⟩ => by
  simp only [evW] at g
  split at g
  · rename_i ds s1 h1
    split at g
    · rename_i hz
      cases g
      refine stepA R h1 fun μ1 H1 vs F1 R1 r1 => ?_
      have z : vs.length ≤ sizeLine := by rw [← r1.length]; exact hz
      exact ⟨z, new_lst F1 R1.sto z r1 k⟩
    · cases g
  · cases g

/-! parts -/
theorem e_ix (hu : X.A.units + 1 < cLine) (ha : PEc X T a ca) (hb : PEc X T b cb) (hs : PlainIx b) : PEc X T (.Subscript a b pos) (.p2 .idx ca cb) := e_two k2_idx (pe_ix (ix_all hu) ha hb hs) fun _ _ _ h => h
theorem plainIx_of (h : (match b with | .Slice .. => true | _ => false) = false) : PlainIx b := fun o i => by
  cases b <;> first | rfl | (simp at h)
theorem rev_go {σ : ASt} {H : AHp} {Q : VK} (h : RdW X.K (evW T (.p1 .rev ca)) σ H Q) : tRevA X.K (RdW X.K (evW T ca)) σ H Q := by
  obtain ⟨μ, ρ, st, w, st', R, g, k⟩ := h
  simp only [evW] at g
  split at g
  · rename_i x s1 h1
    refine stepW R h1 fun μ1 H1 v F1 R1 r1 => ?_
    simp only [op1] at g
    split at g
    · rename_i ds
      obtain ⟨rfl, rfl⟩ := vD_inj g
      cases r1 with
      | tup t rr =>
        rename_i a vs
        refine ⟨a, vs, rfl, .inr ⟨?_, t.1, new_tup F1 R1.sto (by rw [List.length_reverse]; exact t.1) rr.reverse k⟩⟩
        rcases t.2 with q | q
        · exact .of q
        · exact .inr q
    · split at g
      · rename_i ds h2
        cases g
        obtain ⟨a, xs, e1, hq, z, rr⟩ := list_at R1.sto r1 h2
        exact ⟨a, xs, e1, .inl ⟨hq, new_lst F1 R1.sto (by rw [List.length_reverse]; exact z) rr.reverse k⟩⟩
      · cases g
  · cases g
theorem e_rev {kk : Nat} {p1 p3 : Pos} (ha : PEc X T a ca) : PEc X T (.Subscript a (.Slice none none (some (.UnaryOp .USub (.Constant (.int 1) kk p1) p2)) p3) pos) (.p1 .rev ca) := peW (pe_revA ha) fun _ _ _ h => rev_go h
end
end Nx

end

section
set_option maxHeartbeats 1000000
/-! Nx12: calls of builtins, methods, slices, dicts. -/
namespace Nx
open PySem PySem.Spec PyProof.Rows L2

section
variable {X : Cx} {T : Calls} {a b c e o i : Expr} {ca cb cc co : C} {pos p p2 apos cpos : Pos} {x : Str} {id ty : String}
theorem e_b1 {f : P1} {r : List V → AHp → VK → Prop} (k1 : K1 X.K f fun x H Q => r [x] H Q) (hc : CallR X (.builtin id) r) (hg : Gl X x) (hm : X.mg x = none) (hv : bootBuiltins x = some (.builtin id)) (hs : isStarE a = false) (ha : PEc X T a ca) (hn : x ≠ "__name__" := by decide) (hd : (x == ("__debug__" : Str)) = false := by decide) :
    PEc X T (.Call (.Name x p) [a] [] pos) (.p1 f ca) := e_one k1 (pe_callB hc hg hm hv (pa_cons ha pa_nil (star_cons hs)) hn hd (star_cons hs) (star_any pos X.env rfl)) fun _ _ _ h => h
theorem e_t1 {f : P1} {r : List V → AHp → VK → Prop} (k1 : K1 X.K f fun x H Q => r [x] H Q) (hc : CallR X (.type ty) r) (hg : Gl X x) (hm : X.mg x = none) (hv : bootBuiltins x = some (.type ty)) (hs : isStarE a = false) (ha : PEc X T a ca) (hn : x ≠ "__name__" := by decide) (hd : (x == ("__debug__" : Str)) = false := by decide) :
    PEc X T (.Call (.Name x p) [a] [] pos) (.p1 f ca) := e_one k1 (pe_callTy hc hg hm hv (pa_cons ha pa_nil (star_cons hs)) hn hd (star_cons hs) (star_any pos X.env rfl)) fun _ _ _ h => h
theorem any1 (hb : isStarE b = false) : ([b] : List Expr).any isStarE = false := by simp [hb]
theorem e_b2 {f : P2} {r : List V → AHp → VK → Prop} (k2 : K2 X.K f fun x y H Q => r [x, y] H Q) (hc : CallR X (.builtin id) r) (hg : Gl X x) (hm : X.mg x = none) (hv : bootBuiltins x = some (.builtin id)) (hs : isStarE a = false) (hs2 : isStarE b = false) (ha : PEc X T a ca) (hb : PEc X T b cb)
    (hn : x ≠ "__name__" := by decide) (hd : (x == ("__debug__" : Str)) = false := by decide) :
    PEc X T (.Call (.Name x p) [a, b] [] pos) (.p2 f ca cb) := e_two k2 (pe_callB hc hg hm hv (pa_cons ha (pa_cons hb pa_nil (star_cons hs2)) (star_cons hs)) hn hd (star_cons hs) (star_any pos X.env (any1 hs2))) fun _ _ _ h => h
/-- isinstance(a, T) -/
theorem e_isi {y : Str} {py : Pos} (hg : Gl X "isinstance") (hm : X.mg "isinstance" = none) (hgy : Gl X y) (hmy : X.mg y = none) (hvy : bootBuiltins y = some (.type ty)) (hny : y ≠ "__name__") (hdy : (y == ("__debug__" : Str)) = false) (hs : isStarE a = false) (ha : PEc X T a ca) :
    PEc X T (.Call (.Name "isinstance" p) [a, .Name y py] [] pos) (.p1 (.isT ty) ca) :=
  e_one (r := fun x H Q => rIsi X.K [x, .ty ty] H Q) k1_isT (pe_callB call_isi hg hm PyProof.Rows.boot_isinstance (pa_cons ha (pa_cons (pe_bltn (v := .ty ty) hgy hmy hvy rfl hny hdy) pa_nil (star_cons rfl)) (star_cons hs)) (by decide) (by decide) (star_cons hs) (star_any pos X.env rfl)) fun _ _ _ h => h

/-! methods -/
def isCallE : Expr → Bool
  | .Call .. => true
  | _ => false
theorem base_of {m : Str} {env : Env} {whole : Sem Value} (h : isCallE o = false) : attributeBase o m env whole = whole := by
  cases o <;> first | rfl | (simp [isCallE] at h)
theorem few_of {es : List Expr} {env : Env} (h : es.any isStarE = false) (hl : es.length < 30) : ((backTo cpos (starEach es env)).all (fun x => !x.1) && (backToKw cpos (keywordEach [] env)).all (fun x => x.1.isSome)
      && decide (es.length + ([] : List Keyword).length + (if ([] : List Keyword).isEmpty then 0 else 1) < 30)) = true := by
  have q := star_any cpos env h
  have h1 : (backTo cpos (starEach es env)).all (fun x => !x.1) = true := by
    rw [List.all_eq_true]
    intro y hy
    rw [List.any_eq_false] at q
    simpa using q y hy
  have h2 : (backToKw cpos (keywordEach [] env)).all (fun x => x.1.isSome) = true := rfl
  rw [h1, h2]
  simpa using hl
def rcTy : Rc → String
  | .l => "list" | .d => "dict" | .s => "str"
theorem rc_ty {K : PySem.W.Frag} {μ : List Addr} {H0 H : AHp} {st : Sto} {x : W} {v : V} {r : Rc} (S : StoOk K μ st H) (rx : RepW K H0 μ H x v) (h : rcOk r x st = true) : tyV K (rcTy r) v H := by
  unfold rcOk at h
  split at h
  · rename_i l
    cases rx with
    | ref hl =>
      obtain ⟨m, hm, q⟩ := S.at hl
      rw [hm] at h
      cases m with
      | lst es => obtain ⟨vs, h2, _⟩ := q; exact .inl ⟨rfl, vs, .inl (.inl h2)⟩
      | dct es => cases h
  · rename_i l
    cases rx with
    | ref hl =>
      obtain ⟨m, hm, q⟩ := S.at hl
      rw [hm] at h
      cases m with
      | lst es => cases h
      | dct es => obtain ⟨vs, h2, _⟩ := q; exact .inr (.inr (.inl ⟨rfl, .inl ⟨vs, h2⟩⟩))
  · cases rx
    exact rfl
  · cases h
theorem rc_dct {K : PySem.W.Frag} {μ : List Addr} {H0 H : AHp} {st : Sto} {x : W} {v : V} (S : StoOk K μ st H) (rx : RepW K H0 μ H x v) (h : rcOk .d x st = true) : ∃ a kvs, v = .ref a ∧ H a = some (.dK kvs) := by
  cases x with
  | new ds => cases h
  | val d =>
    cases d with
    | ref l =>
      cases rx with
      | ref hl =>
        obtain ⟨m, hm, q⟩ := S.at hl
        simp only [rcOk, hm] at h
        cases m with
        | lst es => cases h
        | dct es => obtain ⟨vs, h2, _⟩ := q; exact ⟨_, vs, rfl, h2⟩
    | _ => cases h
/-- o.m(e) -/
theorem e_m1 {f : P2} {name : Str} {rc : Rc} {r : V → List V → AHp → VK → Prop} (k2 : K2 X.K f fun x y H Q => r x [y] H Q) (pa : PlainAttrs (rcTy rc)) (slot : Slot (rcTy rc) name id) (hty : typeOf (.builtin id) = pure (.type "method_descriptor")) (hm : MtR X id r)
    (hb : isCallE o = false) (hl : (apos.endLine == cpos.line) = true) (hs : isStarE e = false) (ho : PEc X T o co) (he : PEc X T e ce) : PEc X T (.Call (.Attribute o name apos) [e] [] cpos) (.m1 rc f co ce) :=
  peW (pe_bm pa slot hty hm ho (pa_cons he pa_nil (star_cons hs)) (base_of hb) (few_of (any1 hs) (by simp)) hl (star_cons hs) (star_any cpos X.env rfl)) fun σ H Q ⟨μ, ρ, st, w, st', R, g, k⟩ => by
    simp only [evW] at g
    split at g
    · rename_i x s1 h1
      split at g
      · rename_i hr
        split at g
        · rename_i y s2 h2
          exact stepW R h1 fun μ1 H1 v F1 R1 r1 => ⟨rc_ty R1.sto r1 hr, stepW R1 h2 fun μ2 H2 u F2 R2 r2 => k2 μ H μ2 H2 s2 x y v u w st' Q (F1.trans F2) R2.sto (r1.fw F2) (RepW.since F1 F2 r2) g k⟩
        · cases g
      · cases g
    · cases g
theorem e_append (hb : isCallE o = false) (hl : (apos.endLine == cpos.line) = true) (hs : isStarE e = false) (ho : PEc X T o co) (he : PEc X T e ce) : PEc X T (.Call (.Attribute o "append" apos) [e] [] cpos) (.m1 .l .append co ce) :=
  e_m1 (rc := .l) k2_append PySem.F.plainAttrs_list PySem.F.slot_list_append PySem.F.type_list_append mt_append hb hl hs ho he
theorem e_extend (hb : isCallE o = false) (hl : (apos.endLine == cpos.line) = true) (hs : isStarE e = false) (ho : PEc X T o co) (he : PEc X T e ce) : PEc X T (.Call (.Attribute o "extend" apos) [e] [] cpos) (.m1 .l .extend co ce) :=
  e_m1 (rc := .l) k2_extend PySem.F.plainAttrs_list PySem.F.slot_list_extend PySem.F.type_list_extend mt_extend hb hl hs ho he
theorem e_update (hb : isCallE o = false) (hl : (apos.endLine == cpos.line) = true) (hs : isStarE e = false) (ho : PEc X T o co) (he : PEc X T e ce) : PEc X T (.Call (.Attribute o "update" apos) [e] [] cpos) (.m1 .d .update co ce) :=
  e_m1 (rc := .d) k2_update PySem.F.plainAttrs_dict PySem.F.slot_dict_update PySem.F.type_dict_update mt_update hb hl hs ho he
theorem e_join (hb : isCallE o = false) (hl : (apos.endLine == cpos.line) = true) (hs : isStarE e = false) (ho : PEc X T o co) (he : PEc X T e ce) : PEc X T (.Call (.Attribute o "join" apos) [e] [] cpos) (.m1 .s .join co ce) :=
  e_m1 (rc := .s) k2_join PySem.F.plainAttrs_str PySem.F.slot_str_join PySem.F.type_str_join mt_join hb hl hs ho he
/-- o.get(e, f) -/
theorem e_get {f : Expr} {cf : C} (hu : X.A.units + 1 < cLine) (hb : isCallE o = false) (hl : (apos.endLine == cpos.line) = true) (hs : isStarE e = false) (hs2 : isStarE f = false) (ho : PEc X T o co) (he : PEc X T e ce) (hf : PEc X T f cf) :
    PEc X T (.Call (.Attribute o "get" apos) [e, f] [] cpos) (.m2 .d .get co ce cf) := by
  have m : M2 X o "get" apos e f cpos := ⟨base_of hb, few_of (by simp [hs, hs2]) (by simp), hl, by rw [star_cons hs, star_cons hs2]; rfl⟩
  refine peW (pe_dget2 hu ho he hf m) fun σ H Q ⟨μ, ρ, st, w, st', R, g, k⟩ => ?_
  simp only [evW] at g
  split at g
  · rename_i x s1 h1
    split at g
    · rename_i hr
      split at g
      · rename_i y s2 h2
        split at g
        · rename_i z s3 h3
          refine stepW R h1 fun μ1 H1 v F1 R1 r1 => ?_
          obtain ⟨a, kvs, hv, hd⟩ := rc_dct R1.sto r1 hr
          subst hv
          refine ⟨a, rfl, .inl ⟨kvs, .inl hd⟩, stepW R1 h2 fun μ2 H2 u F2 R2 r2 => stepW R2 h3 fun μ3 H3 t F3 R3 r3 => ?_⟩
          simp only [op3] at g
          split at g
          · rename_i l
            split at g
            · rename_i kvs3 d hkv
              split at g
              · rename_i kk hk
                have F13 := F1.trans (F2.trans F3)
                obtain ⟨a', s', e1, _, hd3, _, rkv⟩ := dct_at R3.sto (Rep.fw (F2.trans F3).toGr r1) hkv
                cases e1
                have hy : u = kV kk := key_v (show Rep X.K μ2 H2 d u from r2) hk
                subst hy
                obtain ⟨g1, g2⟩ := getK_v kk rkv
                refine ⟨valV s' kk, DGet.k hd3, ?_⟩
                split at g
                · rename_i e' he'
                  obtain ⟨rfl, rfl⟩ := vD_inj g
                  obtain ⟨v', q1, q2⟩ := g1 e' he'
                  rw [q1]
                  exact k μ3 H3 v' F13 R3.sto q2
                · rename_i he'
                  cases g
                  rw [g2 he']
                  exact k μ3 H3 t F13 R3.sto (RepW.since (F1.trans F2) F3 r3)
              · cases g
            · cases g
          · cases g
        · cases g
      · cases g
    · cases g
  · cases g

/-! slices -/
theorem part_int {lo : Bool} {y : W} {l : Option Int} {v : V} {H0 H : AHp} {μ : List Addr} (h : partOf lo y = some l) (hl : lo = true) (r : RepW X.K H0 μ H y v) : ∃ i, v = .int i ∧ l = some i := by
  subst hl
  unfold partOf at h
  split at h
  · cases h
    cases r
    exact ⟨_, rfl, rfl⟩
  · cases h
  · cases h
theorem part_non {lo : Bool} {y : W} {l : Option Int} (h : partOf lo y = some l) (hl : lo = false) : l = none := by
  subst hl
  unfold partOf at h
  split at h
  · cases h
  · cases h; rfl
  · cases h
def oC (f : Expr → C) : Option Expr → C
  | some e => f e
  | none => .k .non
theorem e_slice {f : Expr → C} {lo hi : Option Expr} (ha : PEc X T a ca) (hlo : ∀ e, lo = some e → PEc X T e (f e)) (hhi : ∀ e, hi = some e → PEc X T e (f e)) :
    PEc X T (.Subscript a (.Slice lo hi none p2) pos) (.p3 (.slice lo.isSome hi.isSome) ca (oC f lo) (oC f hi)) := by
  have part : ∀ (o : Option Expr), (∀ e, o = some e → PEc X T e (f e)) → ∃ t, PO X o t ∧ ∀ (μ : List Addr) (ρ : Rho) (st s1 : Sto) (y : W) (l : Option Int) (σ : ASt) (H : AHp) (Q : Option Int → AHp → Prop), Rl X.K μ ρ st σ H → evW T (oC f o) ρ st = some (y, s1) → partOf o.isSome y = some l →
      (∀ μ1 H1, Fw X.K μ H μ1 H1 → Rl X.K μ1 ρ s1 σ H1 → Q l H1) → t σ H Q := by
    intro o h
    cases o with
    | none =>
      refine ⟨tNoPart, po_none, fun μ ρ st s1 y l σ H Q R e hp k => ?_⟩
      simp only [oC, evW, vD, Option.some.injEq, Prod.mk.injEq] at e
      obtain ⟨rfl, rfl⟩ := e
      have := part_non hp rfl
      subst this
      exact k μ H (.refl ..) R
    | some e =>
      refine ⟨_, po_some (h e rfl), fun μ ρ st s1 y l σ H Q R e hp k => ?_⟩
      refine stepW R e fun μ1 H1 v F1 R1 r1 => ?_
      obtain ⟨i, h1, h2⟩ := part_int hp rfl r1
      subst h2
      exact ⟨i, h1, k μ1 H1 F1 R1⟩
  obtain ⟨tl, pl, hl⟩ := part lo hlo
  obtain ⟨th, ph, hh⟩ := part hi hhi
  refine peW (pe_slice sl_all ha pl ph) fun σ H Q ⟨μ, ρ, st, w, st', R, g, k⟩ => ?_
  simp only [evW] at g
  split at g
  · rename_i x s1 h1
    split at g
    · rename_i y s2 h2
      split at g
      · rename_i z s3 h3
        simp only [op3] at g
        split at g
        · rename_i l h q1 q2
          refine stepW R h1 fun μ1 H1 v F1 R1 r1 => hl μ1 ρ s1 s2 y l σ H1 _ R1 h2 q1 fun μ2 H2 F2 R2 => hh μ2 ρ s2 s3 z h σ H2 _ R2 h3 q2 fun μ3 H3 F3 R3 => ?_
          exact k3_slice (F1.trans (F2.trans F3)) R3.sto g (r1.fw (F2.trans F3)) k
        · cases g
      · cases g
    · cases g
  · cases g

/-! a dict that is written down -/
def pairC (f : Expr → C) : List (Option Expr) → List Expr → Option (List C)
  | [], [] => some []
  | some k :: ks, v :: vs => (pairC f ks vs).map fun r => f k :: f v :: r
  | _, _ => none
theorem pairs_ok {f : Expr → C} : ∀ {ks : List (Option Expr)} {vs : List Expr} {cs : List C}, pairC f ks vs = some cs → (∀ e, PEc X T e (f e)) → ∃ trs, PPs X pos ks vs trs ∧ ks.all (·.isSome) = true ∧ ks.length = vs.length ∧
    ∀ (μ : List Addr) (ρ : Rho) (st st' : Sto) (kvs : List (L2.Key × D)) (σ : ASt) (H : AHp) (Q : List (V × V) → AHp → Prop), Rl X.K μ ρ st σ H → evA2 T cs ρ st = some (kvs, st') →
      (∀ μ' H' (ps : List (L2.Key × V)), Fw X.K μ H μ' H' → StoOk X.K μ' st' H' → RepKV X.K μ' H' kvs ps → Q (ps.map fun kv => (kV kv.1, kv.2)) H') → tPairs trs σ H Q
  | [], [], cs, h, g => by
    simp only [pairC, Option.some.injEq] at h
    subst h
    refine ⟨[], pps_nil, rfl, rfl, fun μ ρ st st' kvs σ H Q R e k => ?_⟩
    simp only [evA2, Option.some.injEq, Prod.mk.injEq] at e
    obtain ⟨rfl, rfl⟩ := e
    exact k μ H [] (.refl ..) R.sto .nil
  | some ke :: ks, ve :: vs, cs, h, g => by
    simp only [pairC, Option.map_eq_some_iff] at h
    obtain ⟨r, h1, rfl⟩ := h
    obtain ⟨trs, p1, p2, p3, p4⟩ := pairs_ok h1 g
    refine ⟨_, pps_cons (g ke) (g ve) p1, by simpa using p2, by simpa using p3, fun μ ρ st st' kvs σ H Q R e k => ?_⟩
    simp only [evA2] at e
    split at e
    · rename_i x s1 e1
      split at e
      · rename_i j hj
        split at e
        · rename_i y s2 e2
          split at e
          · rename_i kvs' s3 e3
            cases e
            refine stepW R e1 fun μ1 H1 v F1 R1 r1 => stepW R1 e2 fun μ2 H2 u F2 R2 r2 => ?_
            obtain ⟨μ3, F3, G3, S3, r3⟩ := settle_ok F2 R2.sto r2
            refine p4 μ3 ρ _ _ kvs' σ H2 _ (R2.fw G3 S3) e3 fun μ4 H4 ps F4 S4 r4 => ?_
            have hv := key_v (show Rep X.K μ1 H1 x v from r1) hj
            subst hv
            exact k μ4 H4 ((j, u) :: ps) ((F1.trans F3).trans F4) S4 (.cons (r3.fw F4.toGr) r4)
          · cases e
        · cases e
      · cases e
    · cases e
  | none :: _, _, _, h, _ => by simp [pairC] at h
  | [], _ :: _, _, h, _ => by simp [pairC] at h
  | some _ :: _, [], _, h, _ => by simp [pairC] at h
theorem set_snoc {α : Type} (l : List α) (a b : α) : (l ++ [a]).set l.length b = l ++ [b] := by
  rw [List.set_append_right _ _ (Nat.le_refl _)]
  simp
theorem e_dict {f : Expr → C} {ks : List (Option Expr)} {vs : List Expr} {cs : List C} (h : pairC f ks vs = some cs) (g : ∀ e, PEc X T e (f e)) (hl : ks.length ≤ 15) : PEc X T (.Dict ks vs pos) (.dict cs) := by
  cases ks with
  | nil =>
    cases vs with
    | cons a r => simp [pairC] at h
    | nil =>
      simp only [pairC, Option.some.injEq] at h
      subst h
      refine peW pe_dnewK fun σ H Q ⟨μ, ρ, st, w, st', R, e, k⟩ p hp => ?_
      simp only [evW, evA2, List.length_nil, Nat.zero_le, if_true] at e
      obtain ⟨rfl, rfl⟩ := vD_inj e
      have n : p ∉ μ := fun q => R.sto.there q hp
      have F1 : Fw X.K μ H μ (upd H p (.dK [])) := .fresh hp
      refine k (μ ++ [p]) _ _ (F1.named hp) ((R.sto.fresh hp).name n ⟨[], upd_same, Nat.zero_le _, .nil⟩) ?_
      exact Rep.ref (by rw [← R.sto.len]; simp)
  | cons k0 ks =>
    obtain ⟨trs, p1, p2, p3, p4⟩ := pairs_ok (pos := pos) h g
    refine peW (pe_disp p1 p2 p3 (by simp) hl) fun σ H Q ⟨μ, ρ, st, w, st', R, e, k⟩ p hp => ?_
    simp only [evW] at e
    split at e
    · rename_i kvs s1 e1
      split at e
      · rename_i hz
        obtain ⟨rfl, rfl⟩ := vD_inj e
        have n : p ∉ μ := fun q => R.sto.there q hp
        have F1 : Fw X.K μ H μ (upd H p (.dK [])) := .fresh hp
        refine p4 μ ρ st _ kvs σ _ _ (R.fw F1.toGr (R.sto.fresh hp)) e1 fun μ2 H2 ps F2 S2 r2 => ?_
        have hp2 : H2 p = some (.dK []) := F2.keep p _ upd_same n
        have n2 : p ∉ μ2 := F2.out upd_same n
        refine ⟨hp2, ps, rfl, by rw [← r2.length]; exact hz, ?_⟩
        have F3 : Fw X.K μ H (μ2 ++ [p]) H2 := (F1.trans F2).named hp
        have S3 : StoOk X.K (μ2 ++ [p]) (s1 ++ [.dct []]) H2 := S2.name n2 ⟨[], hp2, Nat.zero_le _, .nil⟩
        have hat : (μ2 ++ [p])[s1.length]? = some p := by rw [← S2.len]; simp
        have F4 : Fw X.K (μ2 ++ [p]) H2 (μ2 ++ [p]) (upd H2 p (.dK (mergeK [] ps))) := .write hat hp2 True.intro
        have S4 := S3.write (o' := .dK (mergeK [] ps)) (m := .dct (mergeKD [] kvs)) hat hp2 True.intro ⟨mergeK [] ps, upd_same, by
          have q := length_mergeK ps []
          rw [List.length_nil] at q
          have q2 := r2.length
          rw [sizeLine_eq]
          omega, mergeK_v ((r2.fw Gr.name).fw F4.toGr) .nil⟩
        rw [set_snoc] at S4
        exact k _ _ _ (F3.trans F4) S4 (.ref hat)
      · cases e
    · cases e
end
end Nx

end

section
set_option maxHeartbeats 1000000
/-! Nx13: what a for or a comprehension walks; targets. -/
namespace Nx
open PySem PySem.Spec PyProof.Rows L2

/-- a walk gives these items, while the lists that it reads stand -/
structure WkD (K : PySem.W.Frag) (J : It) (items : List D) (g : List (Nat × List D)) (μ0 : List Addr) (H0 : AHp) : Prop where
  goes : ∀ (i : Nat) (μ : List Addr) (H : AHp) (st : Sto), i < items.length → Fw K μ0 H0 μ H → StoOk K μ st H → guardB g st = true → J.go i H
  stops : ∀ (μ : List Addr) (H : AHp) (st : Sto), Fw K μ0 H0 μ H → StoOk K μ st H → guardB g st = true → J.stop items.length H
  yld : ∀ (i : Nat) (μ : List Addr) (H : AHp) (st : Sto) (x : V) (H' : AHp), i < items.length → Fw K μ0 H0 μ H → StoOk K μ st H → guardB g st = true → J.yld i H x H' →
    ∃ d, items[i]? = some d ∧ Fw K μ H μ H' ∧ StoOk K μ st H' ∧ Rep K μ H' d x
/-- a list that is read, as it stands -/
def LsOk (K : PySem.W.Frag) (a : Addr) (ds : List D) (g : List (Nat × List D)) (μ0 : List Addr) (H0 : AHp) : Prop :=
  ∀ (μ : List Addr) (H : AHp) (st : Sto), Fw K μ0 H0 μ H → StoOk K μ st H → guardB g st = true → ∃ vs, SqL K H a vs ∧ RepL K μ H ds vs
mutual
theorem eqDs_eq : ∀ {a b : D}, eqDs a b = true → a = b
  | .non, b, h => by cases b <;> simp [eqDs] at h ⊢
  | .bl _, b, h => by cases b <;> simp [eqDs] at h ⊢; exact h
  | .int _, b, h => by cases b <;> simp [eqDs] at h ⊢; exact h
  | .str _, b, h => by cases b <;> simp [eqDs] at h ⊢; exact h
  | .ref _, b, h => by cases b <;> simp [eqDs] at h ⊢; exact h
  | .tup as, b, h => by
    cases b with
    | tup bs => simp only [eqDs] at h; rw [eqDl_eq h]
    | _ => simp [eqDs] at h
  | .lis as, b, h => by
    cases b with
    | lis bs => simp only [eqDs] at h; rw [eqDl_eq h]
    | _ => simp [eqDs] at h
theorem eqDl_eq : ∀ {as bs : List D}, eqDl as bs = true → as = bs
  | [], [], _ => rfl
  | a :: as, b :: bs, h => by
    simp only [eqDl, Bool.and_eq_true] at h
    rw [eqDs_eq h.1, eqDl_eq h.2]
  | [], _ :: _, h => by simp [eqDl] at h
  | _ :: _, [], h => by simp [eqDl] at h
end
section
variable {K : PySem.W.Frag} {μ0 μ : List Addr} {H0 H : AHp} {st : Sto} {a b : Addr} {ds es : List D} {vs : List V}
def gOf (x : W) (ds : List D) : List (Nat × List D) := match x with | .val (.ref l) => [(l, ds)] | _ => []
/-- a list as it was made or named -/
theorem ls_at {x : W} {v : V} (S : StoOk K μ st H) (r : RepW K H0 μ H x v) (e : listOf st x = some ds) : ∃ a, v = .ref a ∧ (∃ vs, SqL K H a vs) ∧ LsOk K a ds (gOf x ds) μ H := by
  obtain ⟨p, vs0, e0, sq, _, _⟩ := list_at S r e
  refine ⟨p, e0, ⟨vs0, sq⟩, fun μ' H' st' F S' g => ?_⟩
  cases x with
  | new es =>
    simp only [listOf, Option.some.injEq] at e
    subst e
    obtain ⟨q, vs, e1, _, n, hp, z, rr⟩ := r
    rw [e0] at e1
    cases e1
    exact ⟨vs, .of (F.keep p _ hp n), rr.fw F.toGr⟩
  | val d =>
    cases d with
    | ref l =>
      subst e0
      cases r with
      | ref hl =>
        simp only [gOf, guardB, List.all_cons, List.all_nil, Bool.and_true] at g
        split at g
        · rename_i es h1
          have := eqDl_eq g
          subst this
          simp only [listOf] at h1
          split at h1
          · rename_i es' h2
            cases h1
            obtain ⟨vs, q1, z, q2⟩ := S'.obj l p _ (F.pre l p hl) h2
            exact ⟨vs, .of q1, q2⟩
          · cases h1
        · cases g
    | lis es =>
      simp only [listOf, Option.some.injEq] at e
      subst e
      subst e0
      cases r with
      | lis t rr => exact ⟨_, (t.fw F.toGr).sq, rr.fw F.toGr⟩
    | _ => simp [listOf] at e
theorem RepL.at {i : Nat} {x : V} (r : RepL K μ H ds vs) (h : vs[i]? = some x) : ∃ d, ds[i]? = some d ∧ Rep K μ H d x := by
  have hi : i < ds.length := by rw [r.length]; exact (List.getElem?_eq_some_iff.mp h).1
  obtain ⟨v, h1, h2⟩ := r.get (List.getElem?_eq_getElem hi)
  rw [h] at h1
  cases h1
  exact ⟨ds[i], List.getElem?_eq_getElem hi, h2⟩
theorem wk_list {g : List (Nat × List D)} (h : LsOk K a ds g μ0 H0) : WkD K (Itl K a) ds g μ0 H0 where
  goes := fun i μ H st hi F S q => by
    obtain ⟨vs, h1, h2⟩ := h μ H st F S q
    have hv : i < vs.length := by rw [← h2.length]; exact hi
    exact ⟨vs, vs[i], h1, by simp [hv]⟩
  stops := fun μ H st F S q => by
    obtain ⟨vs, h1, h2⟩ := h μ H st F S q
    exact ⟨vs, h1, by rw [h2.length]; exact Nat.le_refl _⟩
  yld := fun i μ H st x H' hi F S q y => by
    obtain ⟨vs, h1, h2⟩ := h μ H st F S q
    obtain ⟨e, y⟩ := y
    subst e
    obtain ⟨d, q1, q2⟩ := h2.at (y vs h1)
    exact ⟨d, q1, .refl .., S, q2⟩
theorem wk_tup (t : TupAt K H0 a vs) (r : RepL K μ0 H0 ds vs) : WkD K (Itt K a) ds [] μ0 H0 where
  goes := fun i μ H st hi F S q => by
    have hv : i < vs.length := by rw [← r.length]; exact hi
    exact ⟨vs, vs[i], (t.fw F.toGr).sq, by simp [hv]⟩
  stops := fun μ H st F S q => ⟨vs, (t.fw F.toGr).sq, by rw [r.length]; exact Nat.le_refl _⟩
  yld := fun i μ H st x H' hi F S q y => by
    obtain ⟨e, y⟩ := y
    subst e
    obtain ⟨d, q1, q2⟩ := (r.fw F.toGr).at (y vs (t.fw F.toGr).sq)
    exact ⟨d, q1, .refl .., S, q2⟩
theorem one_sizeLine : 1 ≤ sizeLine := by decide
theorem wk_str {z : Str} : WkD K (Its z) (signsD z) [] μ0 H0 where
  goes := fun i μ H st hi F S q => by
    have hi : i < z.cps.size := by simpa [signsD] using hi
    exact hi
  stops := fun μ H st F S q => by
    have e : (signsD z).length = z.cps.size := by simp [signsD]
    rw [e]
    exact Nat.le_refl _
  yld := fun i μ H st x H' hi F S q y => by
    obtain ⟨e, c, hc, e2⟩ := y
    subst e e2
    refine ⟨.str ⟨#[c]⟩, ?_, .refl .., S, .str _ one_sizeLine⟩
    simp only [signsD, List.getElem?_map, Array.getElem?_toList, hc]
    rfl
theorem wk_range {lo : Int} {n : Nat} : WkD K (Itr lo n) ((List.range n).map fun i => .int (lo + (i : Nat))) [] μ0 H0 where
  goes := fun i μ H st hi F S q => by
    have hi : i < n := by simpa using hi
    exact hi
  stops := fun μ H st F S q => by
    show n ≤ _
    simp
  yld := fun i μ H st x H' hi F S q y => by
    obtain ⟨e, e2⟩ := y
    subst e e2
    have hi : i < n := by simpa using hi
    exact ⟨.int (lo + (i : Nat)), by simp [hi], .refl .., S, .int _⟩
theorem two_sizeLine {x y : V} : ([x, y] : List V).length ≤ sizeLine := by show 2 ≤ sizeLine; decide
/-- a new pair -/
theorem pair_new {μ : List Addr} {H : AHp} {st : Sto} {d e : D} {x y : V} {t : Addr} (S : StoOk K μ st H) (n : H t = none) (r1 : Rep K μ H d x) (r2 : Rep K μ H e y) :
    Fw K μ H μ (upd H t (.tup [x, y])) ∧ StoOk K μ st (upd H t (.tup [x, y])) ∧ Rep K μ (upd H t (.tup [x, y])) (.tup [d, e]) (.ref t) :=
  ⟨.fresh n, S.fresh n, .tup ⟨two_sizeLine, .inl upd_same⟩ ((RepL.cons r1 (.cons r2 .nil)).fw (Fw.fresh n).toGr)⟩
theorem guardB_append {g1 g2 : List (Nat × List D)} {st : Sto} (h : guardB (g1 ++ g2) st = true) : guardB g1 st = true ∧ guardB g2 st = true := by
  unfold guardB at h ⊢
  rw [List.all_append, Bool.and_eq_true] at h
  exact h
theorem zip_get {f : D → D → D} {i : Nat} {d e : D} (h1 : ds[i]? = some d) (h2 : es[i]? = some e) : (List.zipWith f ds es)[i]? = some (f d e) := by
  rw [List.getElem?_zipWith, h1, h2]
theorem wk_zip {g1 g2 : List (Nat × List D)} (h1 : LsOk K a ds g1 μ0 H0) (h2 : LsOk K b es g2 μ0 H0) : WkD K (Itz K a b) (List.zipWith (fun a b => .tup [a, b]) ds es) (g1 ++ g2) μ0 H0 where
  goes := fun i μ H st hi F S q => by
    obtain ⟨q1, q2⟩ := guardB_append q
    obtain ⟨vs, s1, r1⟩ := h1 μ H st F S q1
    obtain ⟨ws, s2, r2⟩ := h2 μ H st F S q2
    have l1 := r1.length
    have l2 := r2.length
    rw [List.length_zipWith] at hi
    have hv : i < vs.length := by omega
    have hw : i < ws.length := by omega
    exact ⟨vs, ws, vs[i], ws[i], s1, s2, by simp [hv], by simp [hw]⟩
  stops := fun μ H st F S q => by
    obtain ⟨q1, q2⟩ := guardB_append q
    obtain ⟨vs, s1, r1⟩ := h1 μ H st F S q1
    obtain ⟨ws, s2, r2⟩ := h2 μ H st F S q2
    have l1 := r1.length
    have l2 := r2.length
    refine ⟨vs, ws, s1, s2, ?_⟩
    rw [List.length_zipWith]
    omega
  yld := fun i μ H st x H' hi F S q y => by
    obtain ⟨q1, q2⟩ := guardB_append q
    obtain ⟨vs, s1, r1⟩ := h1 μ H st F S q1
    obtain ⟨ws, s2, r2⟩ := h2 μ H st F S q2
    obtain ⟨t, u, w, e1, n, e2, g1, g2⟩ := y
    subst e1 e2
    obtain ⟨d, p1, p2⟩ := r1.at (g1 vs s1)
    obtain ⟨e, p3, p4⟩ := r2.at (g2 ws s2)
    obtain ⟨F', S', R'⟩ := pair_new S n p2 p4
    exact ⟨_, zip_get p1 p3, F', S', R'⟩
theorem wk_zipT {ws : List V} (t1 : TupAt K H0 a vs) (r1 : RepL K μ0 H0 ds vs) (t2 : TupAt K H0 b ws) (r2 : RepL K μ0 H0 es ws) : WkD K (RZ.ItzT K a b) (List.zipWith (fun a b => .tup [a, b]) ds es) [] μ0 H0 where
  goes := fun i μ H st hi F S q => by
    have l1 := r1.length
    have l2 := r2.length
    rw [List.length_zipWith] at hi
    have hv : i < vs.length := by omega
    have hw : i < ws.length := by omega
    exact ⟨vs, ws, vs[i], ws[i], (t1.fw F.toGr).sq, (t2.fw F.toGr).sq, by simp [hv], by simp [hw]⟩
  stops := fun μ H st F S q => by
    have l1 := r1.length
    have l2 := r2.length
    refine ⟨vs, ws, (t1.fw F.toGr).sq, (t2.fw F.toGr).sq, ?_⟩
    rw [List.length_zipWith]
    omega
  yld := fun i μ H st x H' hi F S q y => by
    obtain ⟨t, u, w, e1, n, e2, g1, g2⟩ := y
    subst e1 e2
    obtain ⟨d, p1, p2⟩ := (r1.fw F.toGr).at (g1 vs (t1.fw F.toGr).sq)
    obtain ⟨e, p3, p4⟩ := (r2.fw F.toGr).at (g2 ws (t2.fw F.toGr).sq)
    obtain ⟨F', S', R'⟩ := pair_new S n p2 p4
    exact ⟨_, zip_get p1 p3, F', S', R'⟩
theorem wk_enum {g : List (Nat × List D)} (h : LsOk K a ds g μ0 H0) : WkD K (Ite K a) ((List.range ds.length).zipWith (fun i d => .tup [.int (i : Nat), d]) ds) g μ0 H0 where
  goes := fun i μ H st hi F S q => by
    obtain ⟨vs, h1, h2⟩ := h μ H st F S q
    have l := h2.length
    rw [List.length_zipWith, List.length_range] at hi
    have hv : i < vs.length := by omega
    exact ⟨vs, vs[i], h1, by simp [hv]⟩
  stops := fun μ H st F S q => by
    obtain ⟨vs, h1, h2⟩ := h μ H st F S q
    have l := h2.length
    refine ⟨vs, h1, ?_⟩
    rw [List.length_zipWith, List.length_range]
    omega
  yld := fun i μ H st x H' hi F S q y => by
    obtain ⟨vs, h1, h2⟩ := h μ H st F S q
    obtain ⟨t, w, e1, n, e2, g2⟩ := y
    subst e1 e2
    obtain ⟨d, p1, p2⟩ := h2.at (g2 vs h1)
    obtain ⟨F', S', R'⟩ := pair_new (d := .int (i : Nat)) S n (.int _) p2
    have hi' : i < ds.length := (List.getElem?_eq_some_iff.mp p1).1
    refine ⟨_, ?_, F', S', R'⟩
    rw [List.getElem?_zipWith, p1]
    simp [hi']
end

/-! the iterators -/
def iW (T : Calls) (kind : Nat) (as : List C) (ρ : Rho) (st : Sto) : Option (Walked × Sto) := match evI T as ρ st with
  | some (ws, s1) => match walkOf kind ws s1 with
    | some p => some (p, s1)
    | none => none
  | none => none
theorem iW_inj {T : Calls} {kind : Nat} {as : List C} {ρ : Rho} {st s1 : Sto} {p : Walked} (h : iW T kind as ρ st = some (p, s1)) : ∃ ws, evI T as ρ st = some (ws, s1) ∧ walkOf kind ws s1 = some p := by
  unfold iW at h
  split at h
  · rename_i ws s h1
    split at h
    · rename_i p' h2
      cases h
      exact ⟨ws, h1, h2⟩
    · cases h
  · cases h
def RdK (K : PySem.W.Frag) (f : Rho → Sto → Option (Walked × Sto)) : TI := fun σ H R => ∃ μ ρ st p st', Rl K μ ρ st σ H ∧ f ρ st = some (p, st') ∧ ∀ J μ' H', Fw K μ H μ' H' → StoOk K μ' st' H' → WkD K J p.1 p.2 μ' H' → R J H'
abbrev PIc (X : Cx) (T : Calls) (tg e : Expr) (kind : Nat) (as : List C) : Prop := PI X tg e (RdK X.K (iW T kind as))
theorem piW {X : Cx} {tg e : Expr} {t t' : TI} (h : PI X tg e t) (k : ∀ σ H R, t' σ H R → t σ H R) : PI X tg e t' := ⟨fun pins s σ H R I q => h.run pins s σ H R I (k σ H R q)⟩
def iAny (K : PySem.W.Frag) (te : TE) : TI := fun σ H R => te σ H fun x H1 => (∃ a xs, x = .ref a ∧ SqL K H1 a xs ∧ R (Itl K a) H1) ∨ (∃ a xs, x = .ref a ∧ SqT K H1 a xs ∧ R (Itt K a) H1) ∨ ∃ z, x = .str z ∧ R (Its z) H1
section
variable {X : Cx} {T : Calls} {a b e tg : Expr} {ca cb : C} {p pos tpos : Pos} {te : TE}
theorem pi_any (he : PE X e te) : PI X tg e (iAny X.K te) := by
  constructor
  intro pins s σ H R I h
  refine thn (he.run pins s σ H _ I h) fun v s1 ⟨x, H1, I1, r1, q1⟩ => ?_
  rcases q1 with ⟨a, xs, ex, hq, q⟩ | ⟨a, xs, ex, hq, q⟩ | ⟨z, ex, q⟩
  · subst ex
    cases r1
    obtain ⟨its, rv, pl, hz⟩ := I1.list hq
    exact wpAny_pyIter_list pl.isList (pi_one (tk := s1.toks) I1 _ (turn_list a _) ⟨_, Heap.get?_push_size _ rfl, rfl, rfl⟩ q)
  · subst ex
    cases r1
    obtain ⟨its, rv, pt, hz⟩ := I1.tuple hq
    exact wpAny_pyIter_tuple (show s1.heap.IsTuple a its.toArray from pt) (pi_one (tk := s1.toks) I1 _ (turn_tuple a _) ⟨_, Heap.get?_push_size _ rfl, rfl, rfl⟩ q)
  · subst ex
    obtain ⟨t, rfl⟩ := r1
    cases ha : z.cps.all fun c => decide (c < 128) with
    | false => exact wpAny_pyIter_wide ha (pi_one (tk := s1.toks) I1 _ (turn_str _ z t "str_iterator" (.inr rfl)) ⟨_, Heap.get?_push_size _ rfl, rfl, rfl⟩ q)
    | true => exact wpAny_pyIter_ascii ha (pi_one (tk := s1.toks) I1 _ (turn_str _ z t "str_ascii_iterator" (.inl rfl)) ⟨_, Heap.get?_push_size _ rfl, rfl, rfl⟩ q)
theorem i_val (he : PEc X T e ca) : PIc X T tg e 0 [ca] := piW (pi_any he) fun σ H R ⟨μ, ρ, st, ⟨items, g⟩, st', Rr, ee, k⟩ => by
  obtain ⟨ws, e1, e2⟩ := iW_inj ee
  simp only [evI] at e1
  split at e1
  · rename_i x s1 h1
    simp only [Option.some.injEq, Prod.mk.injEq] at e1
    obtain ⟨rfl, rfl⟩ := e1
    refine stepW Rr h1 fun μ1 H1 v F1 R1 r1 => ?_
    simp only [walkOf] at e2
    split at e2
    · rename_i z
      simp only [Option.some.injEq, Prod.mk.injEq] at e2
      obtain ⟨rfl, rfl⟩ := e2
      cases r1
      exact .inr (.inr ⟨z, rfl, k _ μ1 H1 F1 R1.sto wk_str⟩)
    · rename_i ds
      simp only [Option.some.injEq, Prod.mk.injEq] at e2
      obtain ⟨rfl, rfl⟩ := e2
      cases r1 with
      | tup t rr => exact .inr (.inl ⟨_, _, rfl, t.sq, k _ μ1 H1 F1 R1.sto (wk_tup t rr)⟩)
    · rename_i ds
      simp only [Option.some.injEq, Prod.mk.injEq] at e2
      obtain ⟨rfl, rfl⟩ := e2
      obtain ⟨a, e0, ⟨vs, sq⟩, L⟩ := ls_at R1.sto r1 (ds := ds) rfl
      exact .inl ⟨a, vs, e0, sq, k _ μ1 H1 F1 R1.sto (wk_list L)⟩
    · rename_i l
      split at e2
      · rename_i ds hl
        simp only [Option.some.injEq, Prod.mk.injEq] at e2
        obtain ⟨rfl, rfl⟩ := e2
        obtain ⟨a, e0, ⟨vs, sq⟩, L⟩ := ls_at R1.sto r1 (ds := ds) (by simp [listOf, hl])
        exact .inl ⟨a, vs, e0, sq, k _ μ1 H1 F1 R1.sto (wk_list L)⟩
      · cases e2
    · rename_i ds
      simp only [Option.some.injEq, Prod.mk.injEq] at e2
      obtain ⟨rfl, rfl⟩ := e2
      obtain ⟨a, e0, ⟨vs, sq⟩, L⟩ := ls_at R1.sto r1 (ds := ds) rfl
      exact .inl ⟨a, vs, e0, sq, k _ μ1 H1 F1 R1.sto (wk_list L)⟩
    · cases e2
  · cases e1
theorem evI_one {ρ : Rho} {st s1 : Sto} {ws : List W} (h : evI T [ca] ρ st = some (ws, s1)) : ∃ x, evW T ca ρ st = some (x, s1) ∧ ws = [x] := by
  simp only [evI] at h
  split at h
  · cases h
    exact ⟨_, by assumption, rfl⟩
  · cases h
theorem evI_two {ρ : Rho} {st s1 : Sto} {ws : List W} (h : evI T [ca, cb] ρ st = some (ws, s1)) : ∃ x y s2, evW T ca ρ st = some (x, s2) ∧ evW T cb ρ s2 = some (y, s1) ∧ ws = [x, y] := by
  rw [evI] at h
  split at h
  · rename_i x s2 h1
    split at h
    · rename_i ds s3 h2
      cases h
      obtain ⟨y, h3, rfl⟩ := evI_one h2
      exact ⟨x, y, s2, h1, h3, rfl⟩
    · cases h
  · cases h
theorem walk_zip2 {x y : W} {st : Sto} {p : Walked} (h : walkOf 1 [x, y] st = some p) : (∃ ds es, x = .val (.tup ds) ∧ y = .val (.tup es) ∧ p = (List.zipWith (fun a b => .tup [a, b]) ds es, [])) ∨
    ∃ ds es, listOf st x = some ds ∧ listOf st y = some es ∧ p = (List.zipWith (fun a b => .tup [a, b]) ds es, gOf x ds ++ gOf y es) := by
  unfold walkOf at h
  split at h
  · first | omega | (rename_i heq; cases heq)
  · rename_i heq
    cases heq
    cases h
    exact .inl ⟨_, _, rfl, rfl, rfl⟩
  · rename_i heq
    cases heq
    split at h
    · cases h
      exact .inr ⟨_, _, by assumption, by assumption, rfl⟩
    · cases h
  · first | omega | (rename_i heq; cases heq)
  · first | omega | (rename_i heq; cases heq)
  · first | omega | (rename_i heq; cases heq)
  · cases h
theorem walk_en {x : W} {st : Sto} {p : Walked} (h : walkOf 2 [x] st = some p) : ∃ ds, listOf st x = some ds ∧ p = ((List.range ds.length).zipWith (fun i d => .tup [.int (i : Nat), d]) ds, gOf x ds) := by
  unfold walkOf at h
  split at h
  · first | omega | (rename_i heq; cases heq)
  · first | omega | (rename_i heq; cases heq)
  · first | omega | (rename_i heq; cases heq)
  · rename_i heq
    cases heq
    split at h
    · cases h
      exact ⟨_, by assumption, rfl⟩
    · cases h
  · first | omega | (rename_i heq; cases heq)
  · first | omega | (rename_i heq; cases heq)
  · cases h
theorem walk_r1 {x : W} {st : Sto} {p : Walked} (h : walkOf 3 [x] st = some p) : ∃ n : Int, x = .val (.int n) ∧ n < 1000000 ∧ -1000000 < n ∧ p = (rangeD 0 n, []) := by
  unfold walkOf at h
  split at h
  · first | omega | (rename_i heq; cases heq)
  · first | omega | (rename_i heq; cases heq)
  · first | omega | (rename_i heq; cases heq)
  · first | omega | (rename_i heq; cases heq)
  · rename_i heq
    cases heq
    split at h
    · rename_i hb
      cases h
      exact ⟨_, rfl, hb.1, hb.2, rfl⟩
    · cases h
  · first | omega | (rename_i heq; cases heq)
  · cases h
theorem walk_r2 {x y : W} {st : Sto} {p : Walked} (h : walkOf 3 [x, y] st = some p) : ∃ m n : Int, x = .val (.int m) ∧ y = .val (.int n) ∧ n < 1000000 ∧ -1000000 < n ∧ m < 1000000 ∧ -1000000 < m ∧ p = (rangeD m n, []) := by
  unfold walkOf at h
  split at h
  · first | omega | (rename_i heq; cases heq)
  · first | omega | (rename_i heq; cases heq)
  · first | omega | (rename_i heq; cases heq)
  · first | omega | (rename_i heq; cases heq)
  · first | omega | (rename_i heq; cases heq)
  · rename_i heq
    cases heq
    split at h
    · rename_i hb
      cases h
      exact ⟨_, _, rfl, rfl, hb.1, hb.2.1, hb.2.2.1, hb.2.2.2, rfl⟩
    · cases h
  · cases h
theorem pa_two (hs : isStarE a = false) (hs2 : isStarE b = false) (ha : PEc X T a ca) (hb : PEc X T b cb) : PA X [a, b] (tCons (RdW X.K (evW T ca)) (tCons (RdW X.K (evW T cb)) tNil)) := pa_cons ha (pa_cons hb pa_nil (star_cons hs2)) (star_cons hs)
theorem i_zip {elts : List Expr} {kk : Nat} (hg : Gl X "zip") (hm : X.mg "zip" = none) (hs : isStarE a = false) (hs2 : isStarE b = false) (ha : PEc X T a ca) (hb : PEc X T b cb) : PIc X T (.Tuple elts kk tpos) (.Call (.Name "zip" p) [a, b] [] pos) 1 [ca, cb] :=
  piW (RZ.pi_zipA hg hm (pa_two hs hs2 ha hb) (star_cons hs) (star_any pos X.env (any1 hs2))) fun σ H R ⟨μ, ρ, st, ⟨items, g⟩, st', Rr, ee, k⟩ => by
    obtain ⟨ws, e1, e2⟩ := iW_inj ee
    obtain ⟨x, y, s2, h1, h2, rfl⟩ := evI_two e1
    · · · refine stepW Rr h1 fun μ1 H1 v F1 R1 r1 => stepW R1 h2 fun μ2 H2 u F2 R2 r2 => ?_
          have r1' := r1.fw F2
          rcases walk_zip2 e2 with ⟨ds, es, rfl, rfl, e3⟩ | ⟨ds, es, g1, g2, e3⟩
          · cases e3
            cases r1' with
            | tup t1 q1 =>
              cases r2 with
              | tup t2 q2 => exact ⟨_, _, _, _, rfl, .inr ⟨t1.sq, t2.sq, k _ μ2 H2 (F1.trans F2) R2.sto (wk_zipT t1 q1 t2 q2)⟩⟩
          · cases e3
            obtain ⟨a1, e4, ⟨vs, sq1⟩, L1⟩ := ls_at R2.sto r1' g1
            obtain ⟨a2, e5, ⟨ws, sq2⟩, L2⟩ := ls_at R2.sto r2 g2
            subst e4 e5
            exact ⟨_, _, vs, ws, rfl, .inl ⟨sq1, sq2, k _ μ2 H2 (F1.trans F2) R2.sto (wk_zip L1 L2)⟩⟩
theorem i_enum {elts : List Expr} {kk : Nat} (hg : Gl X "enumerate") (hm : X.mg "enumerate" = none) (hs : isStarE a = false) (ha : PEc X T a ca) : PIc X T (.Tuple elts kk tpos) (.Call (.Name "enumerate" p) [a] [] pos) 2 [ca] :=
  piW (pi_enum hg hm (pa_cons ha pa_nil (star_cons hs)) (star_cons hs)) fun σ H R ⟨μ, ρ, st, ⟨items, g⟩, st', Rr, ee, k⟩ => by
    obtain ⟨ws, e1, e2⟩ := iW_inj ee
    obtain ⟨x, h1, rfl⟩ := evI_one e1
    refine stepW Rr h1 fun μ1 H1 v F1 R1 r1 => ?_
    obtain ⟨ds, g1, e3⟩ := walk_en e2
    cases e3
    obtain ⟨a1, e4, ⟨vs, sq1⟩, L1⟩ := ls_at R1.sto r1 g1
    subst e4
    exact ⟨_, vs, rfl, sq1, k _ μ1 H1 F1 R1.sto (wk_enum L1)⟩
theorem i_range1 (hg : Gl X "range") (hm : X.mg "range" = none) (hs : isStarE a = false) (ha : PEc X T a ca) : PIc X T tg (.Call (.Name "range" p) [a] [] pos) 3 [ca] :=
  piW (pi_range1 hg hm (pa_cons ha pa_nil (star_cons hs)) (star_cons hs)) fun σ H R ⟨μ, ρ, st, ⟨items, g⟩, st', Rr, ee, k⟩ => by
    obtain ⟨ws, e1, e2⟩ := iW_inj ee
    obtain ⟨x, h1, rfl⟩ := evI_one e1
    refine stepW Rr h1 fun μ1 H1 v F1 R1 r1 => ?_
    obtain ⟨n, rfl, b1, b2, e3⟩ := walk_r1 e2
    cases e3
    cases r1
    refine ⟨n, rfl, by omega, by omega, k _ μ1 H1 F1 R1.sto ?_⟩
    have e : n.toNat = (n - 0).toNat := by omega
    rw [e]
    exact wk_range
theorem i_range2 (hg : Gl X "range") (hm : X.mg "range" = none) (hs : isStarE a = false) (hs2 : isStarE b = false) (ha : PEc X T a ca) (hb : PEc X T b cb) : PIc X T tg (.Call (.Name "range" p) [a, b] [] pos) 3 [ca, cb] :=
  piW (pi_range2 hg hm (pa_two hs hs2 ha hb) (by rw [star_cons hs, star_cons hs2]; rfl) (star_cons hs2)) fun σ H R ⟨μ, ρ, st, ⟨items, g⟩, st', Rr, ee, k⟩ => by
    obtain ⟨ws, e1, e2⟩ := iW_inj ee
    obtain ⟨x, y, s2, h1, h2, rfl⟩ := evI_two e1
    refine stepW Rr h1 fun μ1 H1 v F1 R1 r1 => stepW R1 h2 fun μ2 H2 u F2 R2 r2 => ?_
    obtain ⟨m, n, rfl, rfl, b1, b2, b3, b4, e3⟩ := walk_r2 e2
    cases e3
    cases r1
    cases r2
    exact ⟨m, n, rfl, ⟨by omega, by omega, by omega, by omega⟩, k _ μ2 H2 (F1.trans F2) R2.sto wk_range⟩
end
end Nx

end

section
set_option maxHeartbeats 1000000
/-! Nx14: targets; list comprehensions. -/
namespace Nx
open PySem PySem.Spec PyProof.Rows L2

def tgIx : Tg → List Nat
  | .n i => [i]
  | .t is => is
/-- same but at some places -/
def Off (is : List Nat) (σ σ0 : ASt) : Prop := σ.length = σ0.length ∧ ∀ j, j ∉ is → σ[j]? = σ0[j]?
theorem Off.refl (is : List Nat) (σ : ASt) : Off is σ σ := ⟨rfl, fun _ _ => rfl⟩
theorem Off.nil {σ σ0 : ASt} (h : Off [] σ σ0) : σ = σ0 := List.ext_getElem? fun j => h.2 j (by simp)
/-- a target takes a value -/
def GOk (K : PySem.W.Frag) (g : TG) (tg : Tg) : Prop := ∀ (μ : List Addr) (ρ ρ1 : Rho) (st : Sto) (σ σ0 : ASt) (H : AHp) (d : D) (x : V) (Q : ASt → AHp → Prop), Rl K μ ρ st σ0 H → Off (tgIx tg) σ σ0 → Rep K μ H d x → bindTg tg d ρ = some ρ1 →
  (∀ σ', Rl K μ ρ1 st σ' H → Off (tgIx tg) σ' σ → Q σ' H) → g x σ H Q
def gsOf : List Nat → TGs
  | [] => gNil
  | i :: is => gCons (gName i) (gsOf is)
def gOfT (K : PySem.W.Frag) : Tg → TG
  | .n i => gName i
  | .t is => gTup K is.length (gsOf is)
section
variable {K : PySem.W.Frag} {μ : List Addr} {st : Sto} {H : AHp}
theorem off_set {i : Nat} {is : List Nat} {σ σ0 : ASt} {v : V} (h : Off (i :: is) σ σ0) : Off is (σ.set i (some v)) (σ0.set i (some v)) := by
  refine ⟨by simp [h.1], fun j hj => ?_⟩
  by_cases e : j = i
  · subst e
    by_cases hl : j < σ.length
    · rw [List.getElem?_set_self hl, List.getElem?_set_self (by rw [← h.1]; exact hl)]
    · rw [List.getElem?_eq_none (by simpa using hl), List.getElem?_eq_none (by rw [List.length_set, ← h.1]; omega)]
  · rw [List.getElem?_set_ne (Ne.symm e), List.getElem?_set_ne (Ne.symm e)]
    exact h.2 j (by simp [e, hj])
theorem off_one {i : Nat} {σ : ASt} {v : V} : Off [i] (σ.set i (some v)) σ := ⟨by simp, fun j hj => by rw [List.getElem?_set_ne (fun e => hj (by simp [e]))]⟩
theorem Off.trans' {is js : List Nat} {a b c : ASt} (h : Off is a b) (g : Off js b c) : Off (is ++ js) a c := ⟨h.1.trans g.1, fun j hj => by
  simp only [List.mem_append, not_or] at hj
  exact (h.2 j hj.1).trans (g.2 j hj.2)⟩
theorem gs_ok : ∀ (is : List Nat) {ds : List D} {vs : List V} {ρ : Rho} {σ σ0 : ASt} {Q : ASt → AHp → Prop}, Rl K μ ρ st σ0 H → Off is σ σ0 → RepL K μ H ds vs → ds.length = is.length →
    (∀ σ', Rl K μ ((is.zip ds).foldl (fun r p => r.set p.1 (some p.2)) ρ) st σ' H → Off is σ' σ → Q σ' H) → gsOf is vs σ H Q
  | [], ds, vs, ρ, σ, σ0, Q, R, O, r, hl, k => by
    cases r with
    | nil =>
      have := O.nil
      subst this
      exact ⟨rfl, k σ R (.refl ..)⟩
    | cons _ _ => simp at hl
  | i :: is, ds, vs, ρ, σ, σ0, Q, R, O, r, hl, k => by
    cases r with
    | nil => simp at hl
    | @cons d v ds vs r1 r2 =>
      refine ⟨v, vs, rfl, gs_ok is (ds := ds) (R.set r1 i) (off_set O) r2 (by simpa using hl) fun σ' R' O' => k σ' R' ⟨by rw [O'.1]; simp, fun j hj => ?_⟩⟩
      simp only [List.mem_cons, not_or] at hj
      rw [O'.2 j hj.2, List.getElem?_set_ne (Ne.symm hj.1)]
theorem g_ok : ∀ (tg : Tg), GOk K (gOfT K tg) tg
  | .n i => fun μ ρ ρ1 st σ σ0 H d x Q R O r e k => by
    simp only [bindTg, Option.some.injEq] at e
    subst e
    have h := off_set (v := x) O
    refine k _ ?_ off_one
    have := h.nil
    rw [this]
    exact R.set r i
  | .t is => fun μ ρ ρ1 st σ σ0 H d x Q R O r e k => by
    simp only [bindTg] at e
    split at e
    · rename_i ds
      split at e
      · rename_i hl
        cases e
        cases r with
        | tup t rr =>
          rename_i a vs
          exact ⟨a, vs, rfl, t.sq, by rw [← rr.length]; exact hl, gs_ok is R O rr hl k⟩
      · cases e
    · cases e
end
/-- names -/
structure NmOk (X : Cx) (i : Nat) (x : Str) : Prop where
  at_ : X.N[i]? = some x
  loc : Loc X.env.scope x
  fn : X.fn x = true ∨ X.env.scope.names.lookup x = some .local
inductive NmsOk (X : Cx) : List Expr → List Nat → Prop
  | nil : NmsOk X [] []
  | cons {x : Str} {p : Pos} {i : Nat} {es : List Expr} {is : List Nat} : NmOk X i x → NmsOk X es is → NmsOk X (.Name x p :: es) (i :: is)
theorem pgs_names {X : Cx} (hN : X.N.Nodup) : ∀ {es : List Expr} {is : List Nat}, NmsOk X es is → PGs X es (gsOf is) ∧ (assignEach es X.env).length = is.length ∧ (assignEach es X.env).findIdx? (·.1) = none
  | _, _, .nil => ⟨pgs_nil, rfl, rfl⟩
  | _, _, .cons (x := x) (p := p) (es := es) (is := is) n t => by
    obtain ⟨h1, h2, h3⟩ := pgs_names hN t
    refine ⟨pgs_cons (pg_name hN n.at_ n.loc n.fn) h1 rfl, ?_, ?_⟩
    · show (assignEach es X.env).length + 1 = _
      rw [h2]
      rfl
    · show ((false, assign (.Name x p) X.env) :: assignEach es X.env).findIdx? (·.1) = none
      rw [List.findIdx?_cons, h3]
      rfl
/-- a target of names -/
inductive TgOk (X : Cx) : Expr → Tg → Prop
  | n {i : Nat} {x : Str} {p : Pos} : NmOk X i x → TgOk X (.Name x p) (.n i)
  | t {es : List Expr} {is : List Nat} {k : Nat} {p : Pos} : NmsOk X es is → TgOk X (.Tuple es k p) (.t is)
theorem pg_tg {X : Cx} {e : Expr} {tg : Tg} (hc : X.calm = true) (hN : X.N.Nodup) (h : TgOk X e tg) : PG X e (gOfT X.K tg) := by
  cases h with
  | n h => exact pg_name hN h.at_ h.loc h.fn
  | t h =>
    obtain ⟨h1, h2, h3⟩ := pgs_names hN h
    exact pg_tup hc h1 h2 h3

/-! ### comprehensions -/
theorem wipe_get (σ : ASt) (j : Nat) : ∀ (vs : List Nat), (wipe σ vs)[j]? = if j ∈ vs ∧ j < σ.length then some none else σ[j]?
  | [] => by simp [wipe]
  | v :: vs => by
    unfold wipe
    by_cases e : v = j
    · subst e
      by_cases hl : v < σ.length
      · rw [List.getElem?_set_self (by rw [wipe_length]; exact hl), if_pos ⟨by simp, hl⟩]
      · rw [if_neg (fun h => hl h.2), List.getElem?_eq_none (by rw [List.length_set, wipe_length]; omega), List.getElem?_eq_none (by omega)]
    · rw [List.getElem?_set_ne e, wipe_get σ j vs]
      have : (j ∈ v :: vs) ↔ j ∈ vs := by simp [Ne.symm e]
      simp only [this]
theorem wipe_off {is : List Nat} {σ σ0 : ASt} (h : Off is σ σ0) : wipe σ is = wipe σ0 is := List.ext_getElem? fun j => by
  rw [wipe_get, wipe_get, h.1]
  by_cases hj : j ∈ is
  · by_cases hl : j < σ0.length
    · rw [if_pos ⟨hj, hl⟩, if_pos ⟨hj, hl⟩]
    · rw [if_neg (fun q => hl q.2), if_neg (fun q => hl q.2), List.getElem?_eq_none (by rw [h.1]; omega), List.getElem?_eq_none (by omega)]
  · rw [if_neg (fun q => hj q.1), if_neg (fun q => hj q.1)]
    exact h.2 j hj
theorem off_wipe (σ : ASt) (is : List Nat) : Off is (wipe σ is) σ := ⟨wipe_length σ is, fun j hj => by rw [wipe_get, if_neg (fun q => hj q.1)]⟩
theorem off_wipe2 {is : List Nat} {σ σ2 : ASt} (h : Off is σ2 (wipe σ is)) : wipe σ2 is = wipe σ is := by
  rw [wipe_off h, wipe_off (off_wipe σ is)]
theorem comp_len {f : D → Sto → Option (Option D × Sto)} {g : Sto → Bool} : ∀ {ds : List D} {st st' : Sto} {es : List D}, compLoop f g ds st = some (es, st') → es.length ≤ sizeLine
  | [], st, st', es, h => by
    simp only [compLoop] at h
    split at h
    · cases h; exact Nat.zero_le _
    · cases h
  | d :: ds, st, st', es, h => by
    simp only [compLoop] at h
    split at h
    · split at h
      · split at h
        · split at h
          · rename_i hz
            cases h
            exact hz
          · cases h
        · cases h
      · exact comp_len h
      · cases h
    · cases h
/-- a thing that is written and was not there at the beginning -/
theorem Fw.own {K : PySem.W.Frag} {μ μ' : List Addr} {H H' : AHp} {p : Addr} {o : HO} (f : Fw K μ H μ' H') (n : H p = none) : Fw K μ H μ' (upd H' p o) where
  pre := f.pre
  tup := fun a vs h => by rw [upd_ne (ne_of_none h n)]; exact f.tup a vs h
  frz := fun a ob u h => by rw [upd_ne (ne_of_none h n)]; exact f.frz a ob u h
  keep := fun a u h m => by rw [upd_ne (ne_of_none h n)]; exact f.keep a u h m
  new := f.new
  kl := fun a vs h => by rw [upd_ne (ne_of_none h n)]; exact f.kl a vs h
  kd := fun a vs h => by rw [upd_ne (ne_of_none h n)]; exact f.kd a vs h
theorem Gr.lst {K : PySem.W.Frag} {μ : List Addr} {H : AHp} {p : Addr} {vs ws : List V} (h : H p = some (.lst vs)) : Gr K μ H μ (upd H p (.lst ws)) where
  pre := fun _ _ h => h
  tup := fun a vs q => by rw [upd_ne (fun e => by rw [e, h] at q; cases q)]; exact q
  frz := fun a ob u q => by rw [upd_ne (fun e => by rw [e, h] at q; cases q)]; exact q
theorem StoOk.off {K : PySem.W.Frag} {μ : List Addr} {st : Sto} {H : AHp} {p : Addr} {vs ws : List V} (S : StoOk K μ st H) (h : H p = some (.lst vs)) (n : p ∉ μ) : StoOk K μ st (upd H p (.lst ws)) :=
  S.fw (Gr.lst h) fun a ha u q => by rw [upd_ne (fun e => n (by rw [← e]; exact ha))]; exact q
section
variable {X : Cx} {T : Calls} {tg iter elt : Expr} {ifs : List Expr} {scope : Scope} {own : List (Str × Nat)} {pos : Pos} {kind : Nat} {as : List C} {cc ce : C} {tgt : Tg}
/-- one turn's work -/
def turnF (T : Calls) (tgt : Tg) (cc ce : C) (ρ : Rho) (d : D) (s : Sto) : Option (Option D × Sto) := match bindTg tgt d ρ with
  | some ρ1 => match tsW T cc ρ1 s with
    | some (true, s2) => match evW T ce ρ1 s2 with
      | some (y, s3) => some (some (settle y s3).1, (settle y s3).2)
      | none => none
    | some (false, s2) => some (none, s2)
    | none => none
  | none => none
theorem comp_eq {ρ : Rho} {st : Sto} : evW T (.comp kind as tgt cc ce) ρ st = match iW T kind as ρ st with
    | some (p, s1) => match compLoop (turnF T tgt cc ce ρ) (guardB p.2) p.1 s1 with
      | some (es, s4) => some (.new es, s4)
      | none => none
    | none => none := by
  rw [evW]
  unfold iW
  cases evI T as ρ st with
  | none => rfl
  | some p =>
    obtain ⟨ws, s1⟩ := p
    dsimp only
    cases walkOf kind ws s1 with
    | none => rfl
    | some q =>
      refine congrArg (fun F => match compLoop F (guardB q.2) q.1 s1 with | some (es, s4) => some (W.new es, s4) | none => none) ?_
      funext d s
      unfold turnF tsW
      cases bindTg tgt d ρ with
      | none => rfl
      | some ρ1 =>
        dsimp only
        cases evW T cc ρ1 s with
        | none => rfl
        | some p =>
          obtain ⟨x, s2⟩ := p
          dsimp only
          cases truth s2 x with
          | none => rfl
          | some b => cases b <;> rfl
theorem ptsW {ifs : List Expr} {t t' : TT} (h : PTs X ifs t) (k : ∀ σ H Q, t' σ H Q → t σ H Q) : PTs X ifs t' := ⟨fun pins s σ H Q I q => h.run pins s σ H Q I (k σ H Q q)⟩
theorem pts_none : PTs X [] (RdT X.K (tsW T (.k (.bl true)))) := ptsW pts_nil fun σ H Q ⟨μ, ρ, st, b, st', R, e, k⟩ => by
  obtain ⟨w, e1, e2⟩ := ts_inj e
  simp only [evW] at e1
  obtain ⟨rfl, rfl⟩ := vD_inj e1
  cases truth_bl e2
  exact k μ H (.refl ..) R.sto
theorem lc_go {vs : List Nat} (hv : vs = tgIx tgt) {σ : ASt} {H : AHp} {Q : VK} (h : RdW X.K (evW T (.comp kind as tgt cc ce)) σ H Q) :
    tLc (RdK X.K (iW T kind as)) (gOfT X.K tgt) (RdT X.K (tsW T cc)) (RdW X.K (evW T ce)) vs σ H Q := by
  subst hv
  obtain ⟨μ, ρ, st, w, st', R, e, k⟩ := h
  rw [comp_eq] at e
  split at e
  · rename_i p s1 h1
    obtain ⟨items, g⟩ := p
    split at e
    · rename_i es s4 h2
      cases e
      refine ⟨μ, ρ, st, (items, g), s1, R, h1, fun J μ1 H1 F1 S1 wk D hD => ?_⟩
      have n1 : D ∉ μ1 := fun q => S1.there q hD
      have hz := comp_len h2
      obtain ⟨h0, n0⟩ := F1.free S1 hD
      refine ⟨fun i m H' => m = items.length - i ∧ i ≤ items.length ∧ ∃ (μ' : List Addr) (stt : Sto) (accD : List Nx.D) (accV : List V) (rest : List Nx.D), Fw X.K μ1 H1 μ' H' ∧ StoOk X.K μ' stt H' ∧ H' D = some (.lst accV) ∧ D ∉ μ' ∧ RepL X.K μ' H' accD accV ∧
        compLoop (turnF T tgt cc ce ρ) (guardB g) (items.drop i) stt = some (rest, st') ∧ es = accD ++ rest, ⟨items.length, by simp, Nat.zero_le _, μ1, s1, [], [], es, .fresh hD, S1.fresh hD, upd_same, n1, .nil, by simpa using h2, rfl⟩, ?_⟩
      rintro i m H' ⟨rfl, hi, μ', stt, accD, accV, rest, F, S, hD', nD, rA, hc, he⟩
      by_cases hlt : i < items.length
      · right
        have hd : items.drop i = items[i] :: items.drop (i + 1) := List.drop_eq_getElem_cons hlt
        rw [hd] at hc
        simp only [compLoop] at hc
        split at hc
        · rename_i hg
          refine ⟨wk.goes i μ' H' stt hlt F S hg, _, fun H2 h2 => ⟨items.length - (i + 1), by omega, rfl, hlt, h2⟩, fun x H2 y => ?_⟩
          obtain ⟨d, hd1, F2, S2, r2⟩ := wk.yld i μ' H' stt x H2 hlt F S hg y
          have hd2 : items[i] = d := by
            rw [List.getElem?_eq_getElem hlt] at hd1
            exact Option.some.inj hd1
          rw [hd2] at hc
          cases hb : bindTg tgt d ρ with
          | none =>
            have hn : turnF T tgt cc ce ρ d stt = none := by unfold turnF; rw [hb]
            rw [hn] at hc
            cases hc
          | some ρ1 =>
            refine g_ok tgt μ' ρ ρ1 stt _ σ H2 d x _ (R.fw ((F1.trans F).trans F2).toGr S2) (off_wipe σ _) r2 hb fun σ2 R2 O2 => ⟨off_wipe2 O2, ?_⟩
            have hD2 : H2 D = some (.lst accV) := F2.keep D _ hD' nD
            cases ht : tsW T cc ρ1 stt with
            | none =>
              have hn : turnF T tgt cc ce ρ d stt = none := by unfold turnF; rw [hb]; simp only [ht]
              rw [hn] at hc
              cases hc
            | some p =>
              obtain ⟨b, s2⟩ := p
              refine stepT R2 ht fun μ3 H3 F3 R3 => ?_
              have hD3 : H3 D = some (.lst accV) := F3.keep D _ hD2 nD
              have nD3 : D ∉ μ3 := F3.out hD2 nD
              cases b with
              | false =>
                rw [if_neg Bool.false_ne_true]
                have hn : turnF T tgt cc ce ρ d stt = some (none, s2) := by unfold turnF; rw [hb]; simp only [ht]
                rw [hn] at hc
                exact ⟨μ3, s2, accD, accV, rest, (F.trans F2).trans F3, R3.sto, hD3, nD3, (rA.fw F2.toGr).fw F3.toGr, hc, he⟩
              | true =>
                rw [if_pos rfl]
                cases hw : evW T ce ρ1 s2 with
                | none =>
                  have hn : turnF T tgt cc ce ρ d stt = none := by unfold turnF; rw [hb]; simp only [ht, hw]
                  rw [hn] at hc
                  cases hc
                | some p =>
                  obtain ⟨y, s3⟩ := p
                  have hn : turnF T tgt cc ce ρ d stt = some (some (settle y s3).1, (settle y s3).2) := by unfold turnF; rw [hb]; simp only [ht, hw]
                  rw [hn] at hc
                  simp only at hc
                  split at hc
                  · rename_i rest' s5 hc'
                    split at hc
                    · rename_i hlen
                      cases hc
                      refine stepW R3 hw fun μ4 H4 v F4 R4 r4 => ?_
                      obtain ⟨μ5, F5, G5, S5, r5⟩ := settle_ok F4 R4.sto r4
                      have hD4 : H4 D = some (.lst accV) := F4.keep D _ hD3 nD3
                      have nD5 : D ∉ μ5 := F5.out hD3 nD3
                      have hal : accV.length < sizeLine := by
                        rw [he] at hz
                        simp only [List.length_append, List.length_cons] at hz
                        rw [← rA.length]
                        omega
                      have G6 : Gr X.K μ5 H4 μ5 (upd H4 D (.lst (accV ++ [v]))) := .lst hD4
                      refine ⟨accV, hD4, hal, μ5, (settle y s3).2, accD ++ [(settle y s3).1], accV ++ [v], rest', (((F.trans F2).trans F3).trans F5).own hD, S5.off hD4 nD5, upd_same, nD5, ?_, hc', by rw [he]; simp⟩
                      exact ((((rA.fw F2.toGr).fw F3.toGr).fw F5.toGr).append (.cons r5 .nil)).fw G6
                    · cases hc
                  · cases hc
        · cases hc
      · left
        have ei : i = items.length := by omega
        subst ei
        rw [List.drop_length] at hc
        simp only [compLoop] at hc
        split at hc
        · rename_i hg
          cases hc
          simp only [List.append_nil] at he
          subst he
          refine ⟨wk.stops μ' H' _ F S hg, k μ' H' (.ref D) (F1.trans F) S ⟨D, accV, rfl, h0, nD, hD', ?_, rA⟩⟩
          rw [← rA.length]
          exact hz
        · cases hc
    · cases e
  · cases e
end
end Nx

end

section
set_option maxHeartbeats 1000000
/-! Nx15: from the text's expressions to the small language, and that it is right. -/
namespace Nx
open PySem PySem.Spec PyProof.Rows L2

/-- what is known where a text is read: the slots, the scope, the module's constants, its defs, the builtins that it does not hide -/
structure CC where
  N : List Str
  sc : Scope
  con : Str → Option D
  fns : Str → Option (Nat × List Str)
  blt : Str → Bool
  set : Str → Bool
def shapeOf (ps : List Str) (n : Nat) (ks : List Str) : Option Shape :=
  if n + ks.length = ps.length ∧ ks.Nodup ∧ (∀ x ∈ ps.drop n, x ∈ ks) then some ⟨n, ks, List.range n ++ (ps.drop n).map fun x => n + ks.idxOf x⟩ else none
structure XOk (T : Calls) (k : Nat) (cc : CC) (X : Cx) : Prop where
  N : X.N = cc.N
  nd : X.N.Nodup
  sc : X.env.scope = cc.sc
  calm : X.calm = true
  room : Room k X.A
  gd : X.A.guards = some []
  xe : X.xe = fun _ _ => False
  con : ∀ x d, cc.con x = some d → ∃ v u, X.mg x = some u ∧ RelV v u ∧ ∀ μ H, Rep X.K μ H d v
  fns : ∀ x fid ps n ks sh, cc.fns x = some (fid, ps) → shapeOf ps n ks = some sh → CallOk X T k x fid sh
  blt : ∀ x, cc.blt x = true → X.mg x = none
  set : ∀ x, cc.set x = true → Loc X.env.scope x ∧ (X.fn x = true ∨ X.env.scope.names.lookup x = some .local)

def slotOf : List Str → Str → Option Nat
  | [], _ => none
  | y :: r, x => if y = x then some 0 else (slotOf r x).map (· + 1)
theorem slot_get : ∀ {N : List Str} {x : Str} {i : Nat}, slotOf N x = some i → N[i]? = some x
  | [], _, _, h => by simp [slotOf] at h
  | y :: r, x, i, h => by
    simp only [slotOf] at h
    split at h
    · rename_i e
      cases h
      simp [e]
    · simp only [Option.map_eq_some_iff] at h
      obtain ⟨j, h1, rfl⟩ := h
      simpa using slot_get h1
def visB (sc : Scope) (x : Str) : Bool := match sc.names.lookup x with
  | some .local => true
  | some .cell => true
  | some .free => true
  | _ => false
def glB (sc : Scope) (x : Str) : Bool := match sc.names.lookup x with
  | some .globalImplicit => true
  | _ => false
theorem vis_of {sc : Scope} {x : Str} (h : visB sc x = true) : Vis sc x := by
  unfold visB at h
  split at h
  · exact .inl (by assumption)
  · exact .inr (.inl (by assumption))
  · exact .inr (.inr (by assumption))
  · cases h
theorem gl_of {X : Cx} {cc : CC} {x : Str} (e : X.env.scope = cc.sc) (h : glB cc.sc x = true) : Gl X x := by
  unfold glB at h
  split at h
  · show X.env.scope.names.lookup x = _
    rw [e]
    assumption
  · cases h
def plainN (x : Str) : Bool := !(x == ("__debug__" : Str)) && !(x == ("__classdict__" : Str)) && !(x == ("__name__" : Str))
theorem plain_1 {x : Str} (h : plainN x = true) : (x == ("__debug__" : Str)) = false ∧ (x == ("__classdict__" : Str)) = false ∧ x ≠ "__name__" := by
  unfold plainN at h
  simp only [Bool.and_eq_true, Bool.not_eq_true'] at h
  exact ⟨h.1.1, h.1.2, fun e => by subst e; simp at h⟩
def binOf : Operator → Option P2
  | .Add => some .add
  | .Sub => some .sub
  | .Mult => some .mul
  | .FloorDiv => some .fdiv
  | .Mod => some .mod
  | .Pow => some .pow
  | _ => none
def cmpOf : CmpOp → P2
  | .Eq => .eq | .NotEq => .ne | .Lt => .lt | .LtE => .le | .Gt => .gt | .GtE => .ge | .Is => .is | .IsNot => .isn | .In => .inn | .NotIn => .nin
def tyS (x : Str) : Option String :=
  if x = "int" then some "int" else if x = "bool" then some "bool" else if x = "str" then some "str" else if x = "tuple" then some "tuple" else if x = "list" then some "list" else if x = "dict" then some "dict" else none
def b1C (x : Str) (c : C) : C :=
  if x = "len" then .p1 .len c else if x = "abs" then .p1 .abs c else if x = "repr" then .p1 .repr c else if x = "all" then .p1 .all c else if x = "any" then .p1 .any c else if x = "sum" then .p1 .sum c
  else if x = "max" then .p1 .maxL c else if x = "min" then .p1 .minL c else if x = "int" then .p1 .int c else if x = "tuple" then .p1 .tuple c else if x = "list" then .p1 .list c else .stuck
def b2C (x : Str) (c d : C) : C :=
  if x = "divmod" then .p2 .divmod c d else if x = "max" then .p2 .max2 c d else if x = "min" then .p2 .min2 c d else .stuck
def m1C (m : Str) (c d : C) : C :=
  if m = "append" then .m1 .l .append c d else if m = "extend" then .m1 .l .extend c d else if m = "update" then .m1 .d .update c d else if m = "join" then .m1 .s .join c d else .stuck
def isiC (cc : CC) (b : Expr) (c : C) : C := match b with
  | .Name y _ => if glB cc.sc y = true ∧ cc.blt y = true ∧ plainN y = true then match tyS y with
    | some t => .p1 (.isT t) c
    | none => .stuck
    else .stuck
  | _ => .stuck
def bltC (cc : CC) (f : Expr → C) (x : Str) (es : List Expr) : C := match es with
  | [a] => b1C x (f a)
  | [a, b] => if x = "isinstance" then isiC cc b (f a) else b2C x (f a) (f b)
  | _ => .stuck
def callC (cc : CC) (f : Expr → C) (func : Expr) (es : List Expr) (kws : List Keyword) (pos : Pos) : C := match func with
  | .Name x _ => if plainN x = true ∧ es.any isStarE = false ∧ glB cc.sc x = true then match cc.fns x with
    | some (fid, ps) => if kws.all (·.arg.isSome) = true then match shapeOf ps es.length (kwNames kws) with
      | some sh => .call fid (es.map f ++ kws.map fun kw => f kw.value) sh.perm
      | none => .stuck
      else .stuck
    | none => if cc.blt x = true then match kws with
      | [] => bltC cc f x es
      | _ => .stuck
      else .stuck
    else .stuck
  | .Attribute o m apos => if isCallE o = false ∧ (apos.endLine == pos.line) = true ∧ es.any isStarE = false then match kws, es with
    | [], [a] => m1C m (f o) (f a)
    | [], [a, b] => if m = "get" then .m2 .d .get (f o) (f a) (f b) else .stuck
    | _, _ => .stuck
    else .stuck
  | _ => .stuck
def boolC (op : BoolOp) : List C → C
  | [] => .stuck
  | [c] => c
  | c :: r => match op with
    | .And => .and c (boolC op r)
    | .Or => .or c (boolC op r)
def isSlE : Expr → Bool
  | .Slice .. => true
  | _ => false
def isTupE : Expr → Bool
  | .Tuple .. => true
  | _ => false
def isSetE : Expr → Bool
  | .Set .. => true
  | _ => false
/-- what is walked: which way, the parts -/
def iterC (cc : CC) (f : Expr → C) (tg iter : Expr) : Nat × List C := match iter with
  | .Call (.Name x _) es [] _ => if plainN x = true ∧ glB cc.sc x = true ∧ cc.blt x = true ∧ es.any isStarE = false ∧ cc.fns x = none then match es with
    | [a] => if x = "enumerate" then (if isTupE tg = true then (2, [f a]) else (9, [])) else if x = "range" then (3, [f a]) else (0, [f iter])
    | [a, b] => if x = "zip" then (if isTupE tg = true then (1, [f a, f b]) else (9, [])) else if x = "range" then (3, [f a, f b]) else (0, [f iter])
    | _ => (0, [f iter])
    else (0, [f iter])
  | _ => (0, [f iter])
def nmC (cc : CC) : Expr → Option Nat
  | .Name x _ => if cc.set x = true then slotOf cc.N x else none
  | _ => none
def nmsC (cc : CC) : List Expr → Option (List Nat)
  | [] => some []
  | e :: es => match nmC cc e, nmsC cc es with
    | some i, some is => some (i :: is)
    | _, _ => none
def tgC (cc : CC) : Expr → Option Tg
  | .Name x p => (nmC cc (.Name x p)).map .n
  | .Tuple es _ _ => (nmsC cc es).map .t
  | _ => none
def tgNames : Expr → List Str
  | .Name x _ => [x]
  | .Tuple es _ _ => es.filterMap fun e => match e with | .Name x _ => some x | _ => none
  | _ => []
def locB (sc : Scope) (x : Str) : Bool := match sc.names.lookup x with
  | some .local => true
  | some .cell => true
  | _ => false
def CC.blk (cc : CC) (scope : Scope) : CC := { cc with sc := relS scope cc.sc, set := locB scope }
def compC (cc : CC) (f : Expr → C) (f' : Expr → C) (elt : Expr) (gens : List Comprehension) (scope : Scope) : C := match gens with
  | [⟨tg, iter, ifs, 0⟩] => match tgC (cc.blk scope) tg with
    | some tgt =>
      let own := (tgNames tg).zip (tgIx tgt)
      if own.map (·.2) = tgIx tgt ∧ blkC cc.N cc.sc scope own = true ∧ isSetE iter = false then
        match iterC cc f tg iter, ifs with
        | (kind, as), [] => .comp kind as tgt (.k (.bl true)) (f' elt)
        | (kind, as), [c] => .comp kind as tgt (f' c) (f' elt)
        | _, _ => .stuck
      else .stuck
    | none => .stuck
  | _ => .stuck
def isMinus1 : Expr → Bool
  | .UnaryOp .USub (.Constant (.int 1) _ _) _ => true
  | _ => false
def subC (f : Expr → C) (a b : Expr) : C := match b with
  | .Slice none none (some e) _ => if isMinus1 e = true then .p1 .rev (f a) else .stuck
  | .Slice lo hi none _ => .p3 (.slice lo.isSome hi.isSome) (f a) (oC f lo) (oC f hi)
  | .Slice .. => .stuck
  | b => .p2 .idx (f a) (f b)
def cE : Nat → CC → Expr → C
  | 0, _, _ => .stuck
  | n + 1, cc, e => match e with
    | .Constant (.int i) _ _ => .k (.int i)
    | .Constant (.bool b) _ _ => .k (.bl b)
    | .Constant .none _ _ => .k .non
    | .Constant (.str s) _ _ => if s.length ≤ sizeLine then .k (.str s) else .stuck
    | .Name x _ => if plainN x = true then (if visB cc.sc x = true then match slotOf cc.N x with
        | some i => .v i
        | none => .stuck
        else if glB cc.sc x = true then match cc.con x with
          | some d => .k d
          | none => .stuck
        else .stuck) else .stuck
    | .BinOp a op b _ => match binOf op with
      | some o => .p2 o (cE n cc a) (cE n cc b)
      | none => .stuck
    | .UnaryOp .USub a _ => .p1 .neg (cE n cc a)
    | .UnaryOp .Not a _ => .p1 .not (cE n cc a)
    | .Compare a [op] [b] _ => if behindInMarks op b = false then .p2 (cmpOf op) (cE n cc a) (cE n cc b) else .stuck
    | .Compare a [op, op'] [b, c] _ => if lastMarks [op, op'] [b, c] = false then .chain (cmpOf op) (cmpOf op') (cE n cc a) (cE n cc b) (cE n cc c) else .stuck
    | .BoolOp op es _ => boolC op (es.map (cE n cc))
    | .IfExp c a b _ => .ite (cE n cc c) (cE n cc a) (cE n cc b)
    | .Tuple es _ _ => if es.any isStarE = false then .tup (es.map (cE n cc)) else .stuck
    | .List es _ => if es.any isStarE = false then .lst (es.map (cE n cc)) else .stuck
    | .Dict ks vs _ => if ks.length ≤ 15 then match pairC (cE n cc) ks vs with
      | some cs => .dict cs
      | none => .stuck
      else .stuck
    | .Subscript a b _ => subC (cE n cc) a b
    | .Call func es kws pos => callC cc (cE n cc) func es kws pos
    | .ListComp elt gens scope _ => compC cc (cE n cc) (cE n (cc.blk scope)) elt gens scope
    | _ => .stuck

/-! it is right -/
section
variable {T : Calls} {k : Nat} {cc : CC} {X : Cx} (O : XOk T k cc X)
include O
theorem XOk.units : X.A.units + 64 < cLine := O.room.units
theorem XOk.blk {s : Shared} {H : AHp} {scope : Scope} {C : Addr} {cl : List (Str × Addr)} {fp : List Addr} : XOk T k (cc.blk scope) (X.blk s H scope (compEnvC scope cl C X.env) fp) where
  N := O.N
  nd := O.nd
  sc := by
    show relS scope X.env.scope = relS scope cc.sc
    rw [O.sc]
  calm := O.calm
  room := O.room
  gd := O.gd
  xe := rfl
  con := O.con
  fns := fun x fid ps n ks sh h1 h2 => ⟨(O.fns x fid ps n ks sh h1 h2).ex⟩
  blt := O.blt
  set := fun x h => by
    have h : locB scope x = true := h
    unfold locB at h
    split at h
    · rename_i q
      have q2 := lookup_relS_keep (sc := X.env.scope) (by decide) q
      exact ⟨.inl q2, .inr q2⟩
    · rename_i q
      have q2 := lookup_relS_keep (sc := X.env.scope) (by decide) q
      exact ⟨.inr q2, .inl (by show (scope.names.lookup x == some .cell) = true; rw [q]; rfl)⟩
    · cases h
theorem bin_ok {op : Operator} {o : P2} (h : binOf op = some o) : ∃ r, K2 X.K o r ∧ OpR X (binaryOp op) r := by
  cases op <;> simp only [binOf, Option.some.injEq, reduceCtorEq] at h <;> subst h
  · exact ⟨_, k2_add, op_addN⟩
  · exact ⟨_, k2_sub, op_sub⟩
  · exact ⟨_, k2_mul, op_mulN⟩
  · exact ⟨_, k2_mod, op_mod⟩
  · exact ⟨_, k2_pow, op_pow⟩
  · exact ⟨_, k2_fdiv, op_fdivW⟩
theorem cmp_ok (op : CmpOp) : cmpOf op ∈ [P2.eq, P2.ne, P2.lt, P2.le, P2.gt, P2.ge, P2.inn, P2.nin, P2.is, P2.isn] ∧ ∃ r, K2 X.K (cmpOf op) r ∧ OpR X (compareOp op) r := by
  have hu := O.units
  have hu1 : X.A.units + 1 < cLine := by omega
  cases op
  · exact ⟨by decide, _, k2_eq, op_eqAll hu⟩
  · exact ⟨by decide, _, k2_ne, op_neAll hu⟩
  · exact ⟨by decide, _, k2_lt, op_ltN⟩
  · exact ⟨by decide, _, k2_le, op_leN⟩
  · exact ⟨by decide, _, k2_gt, op_gt⟩
  · exact ⟨by decide, _, k2_ge, op_ge⟩
  · exact ⟨by decide, _, k2_is, op_isAll⟩
  · exact ⟨by decide, _, k2_isn, op_notAll⟩
  · exact ⟨by decide, _, k2_inn, op_inAll hu1⟩
  · exact ⟨by decide, _, k2_nin, op_ninAll hu1⟩
theorem ty_ok {x : Str} {t : String} (h : tyS x = some t) : bootBuiltins x = some (.type t) := by
  unfold tyS at h
  repeat' split at h
  all_goals first
    | (cases h; done)
    | (rename_i e; cases h; subst e; decide +kernel)
theorem b1_ok {x : Str} {a : Expr} {c : C} {p pos : Pos} (hg : Gl X x) (hm : X.mg x = none) (hs : isStarE a = false) (ha : PEc X T a c) : PEc X T (.Call (.Name x p) [a] [] pos) (b1C x c) := by
  have hu := O.room.un
  unfold b1C
  split
  · rename_i e; subst e; exact e_b1 k1_len call_lenAll hg hm boot_len hs ha
  split
  · rename_i e; subst e; exact e_b1 k1_abs call_abs hg hm PyProof.Rows.boot_abs hs ha
  split
  · rename_i e; subst e; exact e_b1 k1_repr (call_repr_data O.gd (by omega)) hg hm PyProof.Rows.boot_repr hs ha
  split
  · rename_i e; subst e; exact e_b1 k1_all (cr_all O.calm) hg hm PyProof.Rows.boot_all hs ha
  split
  · rename_i e; subst e; exact e_b1 k1_any (cr_any O.calm) hg hm PyProof.Rows.boot_any hs ha
  split
  · rename_i e; subst e; exact e_b1 k1_sum (cr_sum O.calm) hg hm PyProof.Rows.boot_sum hs ha
  split
  · rename_i e; subst e; exact e_b1 k1_maxL (cr_max O.calm) hg hm PyProof.Rows.boot_max hs ha
  split
  · rename_i e; subst e; exact e_b1 k1_minL (cr_min O.calm) hg hm PyProof.Rows.boot_min hs ha
  split
  · rename_i e; subst e; exact e_t1 k1_int call_int1 hg hm PyProof.Rows.boot_int hs ha
  split
  · rename_i e; subst e; exact e_t1 k1_tuple call_tuple_of hg hm PyProof.Rows.boot_tuple hs ha
  split
  · rename_i e; subst e; exact e_t1 k1_list call_list_of hg hm PyProof.Rows.boot_list hs ha
  · exact pe_stuck
theorem b2_ok {x : Str} {a b : Expr} {c d : C} {p pos : Pos} (hg : Gl X x) (hm : X.mg x = none) (hs : isStarE a = false) (hs2 : isStarE b = false) (ha : PEc X T a c) (hb : PEc X T b d) : PEc X T (.Call (.Name x p) [a, b] [] pos) (b2C x c d) := by
  unfold b2C
  split
  · rename_i e; subst e; exact e_b2 k2_divmod call_divmod hg hm PyProof.Rows.boot_divmod hs hs2 ha hb
  split
  · rename_i e; subst e; exact e_b2 k2_max2 (call_max2 O.calm) hg hm PyProof.Rows.boot_max hs hs2 ha hb
  split
  · rename_i e; subst e; exact e_b2 k2_min2 (call_min2 O.calm) hg hm PyProof.Rows.boot_min hs hs2 ha hb
  · exact pe_stuck
theorem m1_ok {m : Str} {o a : Expr} {c d : C} {apos pos : Pos} (hb : isCallE o = false) (hl : (apos.endLine == pos.line) = true) (hs : isStarE a = false) (ho : PEc X T o c) (ha : PEc X T a d) : PEc X T (.Call (.Attribute o m apos) [a] [] pos) (m1C m c d) := by
  unfold m1C
  split
  · rename_i e; subst e; exact e_append hb hl hs ho ha
  split
  · rename_i e; subst e; exact e_extend hb hl hs ho ha
  split
  · rename_i e; subst e; exact e_update hb hl hs ho ha
  split
  · rename_i e; subst e; exact e_join hb hl hs ho ha
  · exact pe_stuck
end
end Nx

end

section
set_option maxHeartbeats 1000000
/-! Nx16: the reading of an expression is right, whatever the expression. -/
namespace Nx
open PySem PySem.Spec PyProof.Rows L2

section
variable {T : Calls} {k : Nat} {cc : CC} {X : Cx} (O : XOk T k cc X) {f : Expr → C} (hf : ∀ e, PEc X T e (f e))
theorem star_mem {es : List Expr} (h : es.any isStarE = false) : ∀ e ∈ es, isStarE e = false := by
  intro e he
  rw [List.any_eq_false] at h
  simpa using h e he
include O hf
theorem isi_ok {a b : Expr} {p pos : Pos} (hg : Gl X "isinstance") (hm : X.mg "isinstance" = none) (hs : isStarE a = false) : PEc X T (.Call (.Name "isinstance" p) [a, b] [] pos) (isiC cc b (f a)) := by
  unfold isiC
  split
  · rename_i y py
    split
    · rename_i h
      obtain ⟨h1, h2, h3⟩ := h
      obtain ⟨p1, p2, p3⟩ := plain_1 h3
      split
      · rename_i t ht
        exact e_isi hg hm (gl_of O.sc h1) (O.blt y h2) (ty_ok O ht) p3 p1 hs (hf a)
      · exact pe_stuck
    · exact pe_stuck
  · exact pe_stuck
theorem blt_ok {x : Str} {es : List Expr} {p pos : Pos} (hg : Gl X x) (hm : X.mg x = none) (hs : ∀ e ∈ es, isStarE e = false) : PEc X T (.Call (.Name x p) es [] pos) (bltC cc f x es) := by
  unfold bltC
  split
  · rename_i a
    exact b1_ok O hg hm (hs a (by simp)) (hf a)
  · rename_i a b
    split
    · rename_i e
      subst e
      exact isi_ok O hf hg hm (hs a (by simp))
    · exact b2_ok O hg hm (hs a (by simp)) (hs b (by simp)) (hf a) (hf b)
  · exact pe_stuck
theorem call_ok {func : Expr} {es : List Expr} {kws : List Keyword} {pos : Pos} : PEc X T (.Call func es kws pos) (callC cc f func es kws pos) := by
  have hu := O.room.un
  unfold callC
  split
  · rename_i x p
    split
    · rename_i h
      obtain ⟨h1, h2, h3⟩ := h
      obtain ⟨p1, p2, p3⟩ := plain_1 h1
      have hg := gl_of O.sc h3
      split
      · rename_i fid ps hfn
        split
        · rename_i hall
          split
          · rename_i sh hsh
            have hc := O.fns x fid ps es.length (kwNames kws) sh hfn hsh
            have hn : es.length = sh.n ∧ kwNames kws = sh.ks := by
              unfold shapeOf at hsh
              split at hsh
              · cases hsh
                exact ⟨rfl, rfl⟩
              · cases hsh
            exact ew_call hc O.room O.gd hg p1 h2 hall hn.1 hn.2 (fun e _ => hf e) fun kw _ => hf kw.value
          · exact pe_stuck
        · exact pe_stuck
      · split
        · rename_i hb
          split
          · exact blt_ok O hf hg (O.blt x hb) (star_mem h2)
          · exact pe_stuck
        · exact pe_stuck
    · exact pe_stuck
  · rename_i o m apos
    split
    · rename_i h
      obtain ⟨h1, h2, h3⟩ := h
      split
      · rename_i a
        exact m1_ok O h1 h2 (star_mem h3 a (by simp)) (hf o) (hf a)
      · rename_i a b
        split
        · rename_i e
          subst e
          exact e_get (by omega) h1 h2 (star_mem h3 a (by simp)) (star_mem h3 b (by simp)) (hf o) (hf a) (hf b)
        · exact pe_stuck
      · exact pe_stuck
    · exact pe_stuck
  · exact pe_stuck
omit O in
theorem bool_ok {op : BoolOp} {pos : Pos} : ∀ (es : List Expr), PEc X T (.BoolOp op es pos) (boolC op (es.map f))
  | [] => pe_stuck
  | [a] => pe_one (hf a)
  | a :: b :: r => by
    have ih := bool_ok (op := op) (pos := pos) (b :: r)
    cases op with
    | And => exact e_and (hf a) ih
    | Or => exact e_or (hf a) ih
omit O hf in
theorem boolT_ok {op : BoolOp} {pos : Pos} (ht : ∀ e, PTc X T e (f e)) : ∀ (es : List Expr), PWc X T (.BoolOp op es pos) (boolC op (es.map f))
  | [] => ⟨fun wh pins s σ H Q I ⟨μ, ρ, st, b, st', R, e, k⟩ => by simp [boolC, tsW, evW] at e⟩
  | [a] => by
    cases op with
    | And => exact pw_and1 (ht a)
    | Or => exact pw_or1 (ht a)
  | a :: b :: r => by
    have ih := boolT_ok (op := op) (pos := pos) ht (b :: r)
    cases op with
    | And => exact t_and (ht a) ih
    | Or => exact t_or (ht a) ih
theorem sub_ok {a b : Expr} {pos : Pos} : PEc X T (.Subscript a b pos) (subC f a b) := by
  have hu := O.room.un
  unfold subC
  split
  · rename_i e p
    split
    · rename_i h
      unfold isMinus1 at h
      split at h
      · exact e_rev (hf a)
      · cases h
    · exact pe_stuck
  · rename_i lo hi p
    exact e_slice (hf a) (fun e _ => hf e) fun e _ => hf e
  · exact pe_stuck
  · rename_i h1 h2 h3
    refine e_ix (by omega) (hf a) (hf b) (plainIx_of ?_)
    cases b with
    | Slice lo hi st p => exact absurd rfl (h3 lo hi st p)
    | _ => rfl
theorem iter_ok {tg iter : Expr} : PIc X T tg iter (iterC cc f tg iter).1 (iterC cc f tg iter).2 := by
  have none9 : PIc X T tg iter 9 [] := ⟨fun pins s σ H R I ⟨μ, ρ, st, p, st', Rr, e, k⟩ => by
    obtain ⟨ws, e1, e2⟩ := iW_inj e
    simp only [evI, Option.some.injEq, Prod.mk.injEq] at e1
    obtain ⟨rfl, _⟩ := e1
    simp [walkOf] at e2⟩
  unfold iterC
  split
  · rename_i x p es pos
    split
    · rename_i h
      obtain ⟨h1, h2, h3, h4, h5⟩ := h
      have hg := gl_of O.sc h2
      have hm := O.blt x h3
      split
      · rename_i a
        have hs := star_mem h4 a (by simp)
        split
        · rename_i e
          subst e
          split
          · rename_i ht
            unfold isTupE at ht
            split at ht
            · exact i_enum hg hm hs (hf a)
            · cases ht
          · exact none9
        · split
          · rename_i e
            subst e
            exact i_range1 hg hm hs (hf a)
          · exact i_val (hf _)
      · rename_i a b
        have hs := star_mem h4 a (by simp)
        have hs2 := star_mem h4 b (by simp)
        split
        · rename_i e
          subst e
          split
          · rename_i ht
            unfold isTupE at ht
            split at ht
            · exact i_zip hg hm hs hs2 (hf a) (hf b)
            · cases ht
          · exact none9
        · split
          · rename_i e
            subst e
            exact i_range2 hg hm hs hs2 (hf a) (hf b)
          · exact i_val (hf _)
      · exact i_val (hf _)
    · exact i_val (hf _)
  · exact i_val (hf _)
omit hf in
theorem nm_ok {e : Expr} {i : Nat} (h : nmC cc e = some i) : ∃ x p, e = .Name x p ∧ NmOk X i x := by
  unfold nmC at h
  split at h
  · rename_i x p
    split at h
    · rename_i hs
      obtain ⟨h1, h2⟩ := O.set x hs
      exact ⟨x, p, rfl, by rw [O.N]; exact slot_get h, h1, h2⟩
    · cases h
  · cases h
omit hf in
theorem nms_ok : ∀ {es : List Expr} {is : List Nat}, nmsC cc es = some is → NmsOk X es is
  | [], is, h => by
    simp only [nmsC, Option.some.injEq] at h
    subst h
    exact .nil
  | e :: es, is, h => by
    simp only [nmsC] at h
    split at h
    · rename_i i is' h1 h2
      cases h
      obtain ⟨x, p, rfl, n⟩ := nm_ok O h1
      exact .cons n (nms_ok h2)
    · cases h
omit hf in
theorem tg_ok {tg : Expr} {tgt : Tg} (h : tgC cc tg = some tgt) : TgOk X tg tgt := by
  unfold tgC at h
  split at h
  · simp only [Option.map_eq_some_iff] at h
    obtain ⟨i, h1, rfl⟩ := h
    obtain ⟨x, p, e, n⟩ := nm_ok O h1
    cases e
    exact .n n
  · simp only [Option.map_eq_some_iff] at h
    obtain ⟨is, h1, rfl⟩ := h
    exact .t (nms_ok O h1)
  · cases h
omit O hf in
theorem notSet {e : Expr} {env : Env} (h : isSetE e = false) (x : Value) : foldedSetIterable e env x = pure x := by
  cases e <;> first | rfl | (simp [isSetE] at h)
theorem comp_ok {f' : Expr → C} {elt : Expr} {gens : List Comprehension} {scope : Scope} {pos : Pos} (hf' : ∀ (X' : Cx), XOk T k (cc.blk scope) X' → ∀ e, PEc X' T e (f' e) ∧ PTc X' T e (f' e)) : PEc X T (.ListComp elt gens scope pos) (compC cc f f' elt gens scope) := by
  unfold compC
  split
  · rename_i tg iter ifs
    split
    · rename_i tgt htg
      dsimp only
      split
      · rename_i h
        obtain ⟨h1, h2, h3⟩ := h
        have ok : BlkOk X.N X.env.scope scope ((tgNames tg).zip (tgIx tgt)) := by
          rw [O.N, O.sc]
          exact blkOk_by h2
        have hi := iter_ok O hf (tg := tg) (iter := iter)
        have hg : ∀ (s : Shared) (H : AHp) (C : Addr) (cl : List (Str × Addr)) (fp : List Addr), PG (X.blk s H scope (compEnvC scope cl C X.env) fp) tg (gOfT X.K tgt) := fun s H C cl fp => pg_tg (X := X.blk s H scope (compEnvC scope cl C X.env) fp) O.calm O.nd (tg_ok O.blk htg)
        split
        · rename_i kind as hk
          rw [hk] at hi
          exact peW (pe_lc O.calm O.nd hi ok hg (fun s H C cl fp => pts_none) (fun s H C cl fp => (hf' _ O.blk elt).1) (notSet h3)) fun σ H Q q => lc_go h1 q
        · rename_i kind as c hk
          rw [hk] at hi
          exact peW (pe_lc O.calm O.nd hi ok hg (fun s H C cl fp => pts_one (hf' _ O.blk c).2) (fun s H C cl fp => (hf' _ O.blk elt).1) (notSet h3)) fun σ H Q q => lc_go h1 q
        · exact pe_stuck
      · exact pe_stuck
    · exact pe_stuck
  · exact pe_stuck
end
theorem cE_ok {T : Calls} {k : Nat} : ∀ (n : Nat) (cc : CC) (X : Cx), XOk T k cc X → ∀ e, PEc X T e (cE n cc e) ∧ PTc X T e (cE n cc e)
  | 0, cc, X, O, e => ⟨pe_stuck, pt_stuck⟩
  | n + 1, cc, X, O, e => by
    have ih := cE_ok n cc X O
    have hf : ∀ e, PEc X T e (cE n cc e) := fun e => (ih e).1
    have ht : ∀ e, PTc X T e (cE n cc e) := fun e => (ih e).2
    have tr : ∀ {a : Expr} {c : C}, (∀ whole, isTrue a X.env whole = (do let v ← whole; standAt a.pos; holding [v] (truthy v))) → PEc X T a c → PEc X T a c ∧ PTc X T a c := fun he h => ⟨h, t_truth h he⟩
    unfold cE
    split
    · exact tr (fun _ => rfl) (e_const pe_int fun μ H => .int _)
    · exact tr (fun _ => rfl) (e_const pe_bl fun μ H => .bl _)
    · exact tr (fun _ => rfl) (e_const pe_non fun μ H => .non)
    · split
      · rename_i h
        exact tr (fun _ => rfl) (e_const pe_str fun μ H => .str _ h)
      · exact ⟨pe_stuck, pt_stuck⟩
    · rename_i x p
      split
      · rename_i hp
        obtain ⟨p1, p2, p3⟩ := plain_1 hp
        split
        · rename_i hv
          split
          · rename_i i hi
            exact tr (fun _ => rfl) (e_var (by rw [O.N]; exact slot_get hi) (by rw [O.sc]; exact vis_of hv) p1 p2)
          · exact ⟨pe_stuck, pt_stuck⟩
        · split
          · rename_i hg
            split
            · rename_i d hd
              obtain ⟨v, u, h1, h2, h3⟩ := O.con x d hd
              exact tr (fun _ => rfl) (e_const (pe_glob (gl_of O.sc hg) h1 h2 p1) h3)
            · exact ⟨pe_stuck, pt_stuck⟩
          · exact ⟨pe_stuck, pt_stuck⟩
      · exact ⟨pe_stuck, pt_stuck⟩
    · rename_i a op b p
      split
      · rename_i o ho
        obtain ⟨r, h1, h2⟩ := bin_ok O ho
        exact tr (fun _ => rfl) (e_bin h1 h2 (hf a) (hf b))
      · exact ⟨pe_stuck, pt_stuck⟩
    · rename_i a p
      exact tr (fun _ => rfl) (e_one k1_neg (pe_un un_neg (hf a)) fun _ _ _ h => h)
    · rename_i a p
      exact ⟨e_not (hf a), t_not (ht a)⟩
    · rename_i a op b p
      split
      · rename_i hm
        obtain ⟨hin, r, h1, h2⟩ := cmp_ok O op
        exact ⟨e_cmp h1 h2 (hf a) (hf b) hm, t_cmp hin h1 h2 (hf a) (hf b) hm⟩
      · exact ⟨pe_stuck, pt_stuck⟩
    · rename_i a op op' b c p
      split
      · rename_i hm
        obtain ⟨hin, r, h1, h2⟩ := cmp_ok O op
        obtain ⟨hin', r', h1', h2'⟩ := cmp_ok O op'
        exact ⟨e_chain hin h1 h1' h2 h2' (hf a) (hf b) (hf c) hm, t_chain hin hin' h1 h1' h2 h2' (hf a) (hf b) (hf c) hm⟩
      · exact ⟨pe_stuck, pt_stuck⟩
    · rename_i op es p
      exact ⟨bool_ok hf es, (boolT_ok ht es).pt⟩
    · rename_i c a b p
      exact ⟨e_ite (ht c) (hf a) (hf b), t_ite (ht c) (ht a) (ht b)⟩
    · split
      · rename_i h
        exact tr (fun _ => rfl) (e_tup h fun e _ => hf e)
      · exact ⟨pe_stuck, pt_stuck⟩
    · split
      · rename_i h
        exact tr (fun _ => rfl) (e_lst h fun e _ => hf e)
      · exact ⟨pe_stuck, pt_stuck⟩
    · split
      · rename_i h
        split
        · rename_i cs hc
          exact tr (fun _ => rfl) (e_dict hc hf h)
        · exact ⟨pe_stuck, pt_stuck⟩
      · exact ⟨pe_stuck, pt_stuck⟩
    · exact tr (fun _ => rfl) (sub_ok O hf)
    · exact tr (fun _ => rfl) (call_ok O hf)
    · rename_i elt gens scope p
      exact tr (fun _ => rfl) (comp_ok O hf fun X' O' => cE_ok n (cc.blk scope) X' O')
    · exact ⟨pe_stuck, pt_stuck⟩
end Nx

end

section
set_option maxHeartbeats 1000000
/-! Nx17: statements, form by form. -/
namespace Nx
open PySem PySem.Spec PyProof.Rows L2

abbrev PSc (X : Cx) (T : Calls) (st : Stmt) (s : S) : Prop := PS X st (RdS X.K (exS T s))
abbrev PSsc (X : Cx) (T : Calls) (sts : List Stmt) (ss : List S) : Prop := PSs X sts (RdS X.K (exB T ss))
theorem FlQ.fw {K : PySem.W.Frag} {μ μ1 : List Addr} {H H1 : AHp} {D : Ends} {fl : Fl} {ρ : Rho} {st : Sto} (h : FlQ K μ H D fl ρ st) (F : Fw K μ H μ1 H1) : FlQ K μ1 H1 D fl ρ st := by
  cases fl with
  | nx => exact fun μ' σ' H' F' R => h μ' σ' H' (F.trans F') R
  | bk => exact fun μ' σ' H' F' R => h μ' σ' H' (F.trans F') R
  | ct => exact fun μ' σ' H' F' R => h μ' σ' H' (F.trans F') R
  | rt d => exact fun μ' H' v F' S r => h μ' H' v (F.trans F') S r
section
variable {X : Cx} {T : Calls} {e : Expr} {c : C} {pos : Pos} {st : Stmt}
theorem ps_stuck : PSc X T st .stuck := ⟨fun pins s σ H D I ⟨μ, ρ, st, fl, ρ', st', R, h, k⟩ => by simp [exS] at h⟩
theorem s_pass : PSc X T (.Pass pos) .pass := psW ps_pass fun D σ H ⟨μ, ρ, st, fl, ρ', st', R, h, k⟩ => by
  simp only [exS, Option.some.injEq, Prod.mk.injEq] at h
  obtain ⟨rfl, rfl, rfl⟩ := h
  exact k μ σ H (.refl ..) R
theorem s_brk : PSc X T (.Break pos) .brk := psW ps_break fun D σ H ⟨μ, ρ, st, fl, ρ', st', R, h, k⟩ => by
  simp only [exS, Option.some.injEq, Prod.mk.injEq] at h
  obtain ⟨rfl, rfl, rfl⟩ := h
  exact k μ σ H (.refl ..) R
theorem s_cont : PSc X T (.Continue pos) .cont := psW ps_continue fun D σ H ⟨μ, ρ, st, fl, ρ', st', R, h, k⟩ => by
  simp only [exS, Option.some.injEq, Prod.mk.injEq] at h
  obtain ⟨rfl, rfl, rfl⟩ := h
  exact k μ σ H (.refl ..) R
theorem s_retN : PSc X T (.Return none pos) .retN := psW ps_retN fun D σ H ⟨μ, ρ, st, fl, ρ', st', R, h, k⟩ => by
  simp only [exS, Option.some.injEq, Prod.mk.injEq] at h
  obtain ⟨rfl, rfl, rfl⟩ := h
  exact k μ H .non (.refl ..) R.sto .non
theorem s_ret (he : PEc X T e c) : PSc X T (.Return (some e) pos) (.ret c) := psW (ps_ret he) fun D σ H ⟨μ, ρ, st, fl, ρ', st', R, h, k⟩ => by
  simp only [exS] at h
  split at h
  · rename_i x s1 h1
    cases h
    refine stepW R h1 fun μ1 H1 v F1 R1 r1 => ?_
    obtain ⟨μ2, F2, G2, S2, r2⟩ := settle_ok F1 R1.sto r1
    exact k μ2 H1 v F2 S2 r2
  · cases h
theorem s_ex (he : PEc X T e c) (hs : swapsWith e none pos.line X.env = pure false) : PSc X T (.Expr e pos) (.ex c) := psW (ps_expr he hs) fun D σ H ⟨μ, ρ, st, fl, ρ', st', R, h, k⟩ => by
  simp only [exS] at h
  split at h
  · rename_i x s1 h1
    cases h
    exact stepW R h1 fun μ1 H1 v F1 R1 r1 => k μ1 σ H1 F1 R1
  · cases h
theorem s_if {a b : List Stmt} {ca cb : List S} (hc : PTc X T e c) (ha : PSsc X T a ca) (hb : PSsc X T b cb) : PSc X T (.If e a b pos) (.ite c ca cb) := psW (ps_if hc ha hb) fun D σ H ⟨μ, ρ, st, fl, ρ', st', R, h, k⟩ => by
  simp only [exS] at h
  split at h
  · rename_i x s1 h1
    split at h
    · rename_i h2
      refine stepT R (ts_mk h1 h2) fun μ1 H1 F1 R1 => ?_
      rw [if_pos rfl]
      exact ⟨μ1, ρ, s1, fl, ρ', st', R1, h, k.fw F1⟩
    · rename_i h2
      refine stepT R (ts_mk h1 h2) fun μ1 H1 F1 R1 => ?_
      rw [if_neg Bool.false_ne_true]
      exact ⟨μ1, ρ, s1, fl, ρ', st', R1, h, k.fw F1⟩
    · cases h
  · cases h
theorem ss_nil : PSsc X T [] [] := pssW pss_nil fun D σ H ⟨μ, ρ, st, fl, ρ', st', R, h, k⟩ => by
  simp only [exB, Option.some.injEq, Prod.mk.injEq] at h
  obtain ⟨rfl, rfl, rfl⟩ := h
  exact k μ σ H (.refl ..) R
theorem ss_cons {rest : List Stmt} {s : S} {ss : List S} (h1 : PSc X T st s) (h2 : PSsc X T rest ss) : PSsc X T (st :: rest) (s :: ss) := pssW (pss_cons h1 h2) fun D σ H ⟨μ, ρ, st, fl, ρ', st', R, h, k⟩ => by
  simp only [exB] at h
  split at h
  · rename_i ρ1 s1 g
    exact ⟨μ, ρ, st, .nx, ρ1, s1, R, g, fun μ1 σ1 H1 F1 R1 => ⟨μ1, ρ1, s1, fl, ρ', st', R1, h, k.fw F1⟩⟩
  · rename_i g
    refine ⟨μ, ρ, st, fl, ρ', st', R, h, ?_⟩
    cases fl with
    | nx => exact absurd h (by intro q; exact g _ _ q)
    | bk => exact k
    | ct => exact k
    | rt d => exact k

/-! loops -/
theorem for_eq {kind : Nat} {as : List C} {tg : Tg} {b : List S} {ρ : Rho} {st : Sto} : exS T (.for_ kind as tg b) ρ st = match iW T kind as ρ st with
    | some (p, s1) => forLoop (fun d r s => match bindTg tg d r with
        | some r1 => exB T b r1 s
        | none => none) (guardB p.2) p.1 ρ s1
    | none => none := by
  rw [exS]
  unfold iW
  cases evI T as ρ st with
  | none => rfl
  | some p =>
    obtain ⟨ws, s1⟩ := p
    dsimp only
    cases walkOf kind ws s1 with
    | none => rfl
    | some q => rfl
theorem wh_eq {b : List S} {ρ : Rho} {st : Sto} : exS T (.wh c b) ρ st = whLoop (tsW T c) (fun r s => exB T b r s) rounds ρ st := by
  rw [exS]
  refine congrArg (fun F => whLoop F (fun r s => exB T b r s) rounds ρ st) ?_
  funext r s
  unfold tsW
  rfl
theorem s_for {tg iter : Expr} {body : List Stmt} {kind : Nat} {as : List C} {tgt : Tg} {cb : List S} (hp : PassesOwn (model X.prog X.w) X.A X.env X.xe) (hc : X.calm = true) (hi : PIc X T tg iter kind as) (hg : PG X tg (gOfT X.K tgt)) (hb : PSsc X T body cb)
    (hs : ∀ x, foldedSetIterable iter X.env x = pure x) : PSc X T (.For tg iter body [] pos) (.for_ kind as tgt cb) := psW (ps_for hp hc hi hg hb hs) fun D σ H ⟨μ, ρ, st, fl, ρ', st', R, h, k⟩ => by
  rw [for_eq] at h
  split at h
  · rename_i p s1 h1
    refine ⟨μ, ρ, st, p, s1, R, h1, fun J μ1 H1 F1 S1 wk => ?_⟩
    refine ⟨fun i m σ' H' => m = p.1.length - i ∧ i ≤ p.1.length ∧ ∃ μ' ρ1 stt, Fw X.K μ1 H1 μ' H' ∧ Rl X.K μ' ρ1 stt σ' H' ∧ forLoop (fun d r s => match bindTg tgt d r with
        | some r1 => exB T cb r1 s
        | none => none) (guardB p.2) (p.1.drop i) ρ1 stt = some (fl, ρ', st'), ⟨p.1.length, by simp, Nat.zero_le _, μ1, ρ, s1, .refl .., R.fw F1.toGr S1, by simpa using h⟩, ?_⟩
    rintro i m σ' H' ⟨rfl, hi, μ', ρ1, stt, F, R', hl⟩
    by_cases hlt : i < p.1.length
    · right
      have hd : p.1.drop i = p.1[i] :: p.1.drop (i + 1) := List.drop_eq_getElem_cons hlt
      rw [hd] at hl
      simp only [forLoop] at hl
      split at hl
      · rename_i hgd
        refine ⟨wk.goes i μ' H' stt hlt F R'.sto hgd, _, fun σ2 H2 h2 => ⟨p.1.length - (i + 1), by omega, rfl, hlt, h2⟩, fun x H2 y => ?_⟩
        obtain ⟨d, hd1, F2, S2, r2⟩ := wk.yld i μ' H' stt x H2 hlt F R'.sto hgd y
        have hd2 : p.1[i] = d := by
          rw [List.getElem?_eq_getElem hlt] at hd1
          exact Option.some.inj hd1
        rw [hd2] at hl
        cases hb : bindTg tgt d ρ1 with
        | none =>
          rw [hb] at hl
          cases hl
        | some ρ2 =>
          rw [hb] at hl
          dsimp only at hl
          refine g_ok tgt μ' ρ1 ρ2 stt σ' σ' H2 d x _ (R'.fw F2.toGr S2) (.refl ..) r2 hb fun σ2 R2 _ => ?_
          have F02 : Fw X.K μ H μ' H2 := (F1.trans F).trans F2
          cases hx : exB T cb ρ2 stt with
          | none =>
            rw [hx] at hl
            cases hl
          | some q =>
            obtain ⟨fl1, ρ3, s3⟩ := q
            rw [hx] at hl
            refine ⟨μ', ρ2, stt, fl1, ρ3, s3, R2, hx, ?_⟩
            cases fl1 with
            | nx => exact fun μ3 σ3 H3 F3 R3 => ⟨μ3, ρ3, s3, (F.trans F2).trans F3, R3, hl⟩
            | ct => exact fun μ3 σ3 H3 F3 R3 => ⟨μ3, ρ3, s3, (F.trans F2).trans F3, R3, hl⟩
            | bk =>
              cases hl
              exact fun μ3 σ3 H3 F3 R3 => k μ3 σ3 H3 (F02.trans F3) R3
            | rt d =>
              cases hl
              exact fun μ3 H3 v F3 S3 r3 => k μ3 H3 v (F02.trans F3) S3 r3
      · cases hl
    · left
      have ei : i = p.1.length := by omega
      subst ei
      rw [List.drop_length] at hl
      simp only [forLoop] at hl
      split at hl
      · rename_i hgd
        cases hl
        exact ⟨wk.stops μ' H' _ F R'.sto hgd, k μ' σ' H' (F1.trans F) R'⟩
      · cases hl
  · cases h
theorem s_while {body : List Stmt} {cb : List S} (hp : PassesOwn (model X.prog X.w) X.A X.env X.xe) (hc : PTc X T e c) (hb : PSsc X T body cb) : PSc X T (.While e body [] pos) (.wh c cb) := psW (ps_while hp hc hb) fun D σ H ⟨μ, ρ, st, fl, ρ', st', R, h, k⟩ => by
  rw [wh_eq] at h
  refine ⟨fun m σ' H' => ∃ μ' ρ1 stt, Fw X.K μ H μ' H' ∧ Rl X.K μ' ρ1 stt σ' H' ∧ whLoop (tsW T c) (fun r s => exB T cb r s) m ρ1 stt = some (fl, ρ', st'), ⟨rounds, μ, ρ, st, .refl .., R, h⟩, ?_⟩
  rintro m σ' H' ⟨μ', ρ1, stt, F, R', hl⟩
  cases m with
  | zero => simp [whLoop] at hl
  | succ m =>
    simp only [whLoop] at hl
    cases ht : tsW T c ρ1 stt with
    | none =>
      rw [ht] at hl
      cases hl
    | some q =>
      obtain ⟨b, s0⟩ := q
      rw [ht] at hl
      refine stepT R' ht fun μ1 H1 F1 R1 => ?_
      have F01 := F.trans F1
      cases b with
      | false =>
        rw [if_neg Bool.false_ne_true]
        cases hl
        exact k μ1 σ' H1 F01 R1
      | true =>
        rw [if_pos rfl]
        dsimp only at hl
        refine ⟨_, fun σ2 H2 h2 => ⟨m, Nat.lt_succ_self m, h2⟩, ?_⟩
        cases hx : exB T cb ρ1 s0 with
        | none =>
          rw [hx] at hl
          cases hl
        | some q =>
          obtain ⟨fl1, ρ3, s3⟩ := q
          rw [hx] at hl
          refine ⟨μ1, ρ1, s0, fl1, ρ3, s3, R1, hx, ?_⟩
          cases fl1 with
          | nx => exact fun μ3 σ3 H3 F3 R3 => ⟨μ3, ρ3, s3, F01.trans F3, R3, hl⟩
          | ct => exact fun μ3 σ3 H3 F3 R3 => ⟨μ3, ρ3, s3, F01.trans F3, R3, hl⟩
          | bk =>
            cases hl
            exact fun μ3 σ3 H3 F3 R3 => k μ3 σ3 H3 (F01.trans F3) R3
          | rt d =>
            cases hl
            exact fun μ3 H3 v F3 S3 r3 => k μ3 H3 v (F01.trans F3) S3 r3
end
end Nx

end

section
set_option maxHeartbeats 1000000
/-! Nx18: assignments. -/
namespace Nx
open PySem PySem.Spec PyProof.Rows L2

def isCompE : Expr → Bool
  | .ListComp .. => true
  | .SetComp .. => true
  | .DictComp .. => true
  | _ => false
theorem sw_no {e : Expr} {t : Option Expr} {l : Nat} {env : Env} (h : isCompE e = false) : swapsWith e t l env = pure false := by
  cases e <;> first | rfl | (simp [isCompE] at h)
theorem sw_tup {e : Expr} {es : List Expr} {kk : Nat} {p : Pos} {l : Nat} {env : Env} : swapsWithSole [.Tuple es kk p] e l env = pure false := by
  cases e <;> rfl
theorem sw_sub {e o i : Expr} {p : Pos} {l : Nat} {env : Env} : swapsWithSole [.Subscript o i p] e l env = pure false := by
  cases e <;> rfl
theorem st_tup {e : Expr} {es : List Expr} {kk : Nat} {p : Pos} {env : Env} (h : isTupE e = false) : swappedStores [.Tuple es kk p] e env = pure none := by
  cases e <;> first | rfl | (simp [isTupE] at h)
theorem st_sub {e o i : Expr} {p : Pos} {env : Env} : swappedStores [.Subscript o i p] e env = pure none := by
  cases e <;> rfl
theorem sw_cell {e : Expr} {y : Str} {p : Pos} {l : Nat} {env : Env} (h : env.scope.names.lookup y = some .cell) : swapsWith e (some (.Name y p)) l env = pure false := by
  have ky : env.kindOf y = some .cell := h
  have k2 : (some NameKind.cell == some NameKind.local) = false := rfl
  cases e <;> first
    | rfl
    | (unfold swapsWith
       simp only [ky, k2, Bool.and_false, Bool.false_and]
       done)
    | (unfold swapsWith
       simp only [ky, k2, Bool.and_false, Bool.false_and]
       rfl)
theorem assign_sub {o i : Expr} {p : Pos} {env : Env} (h : isSlE i = false) : ∀ v, assign (.Subscript o i p) env v = (do
      let ov ← holding [v] (eval o env)
      let iv ← holding [v, ov] (eval i env)
      standAt p
      holding [v, ov, iv] (setItem ov iv v)
      release [v, ov, iv] []) := fun v => by
  cases i <;> first | rfl | (simp [isSlE] at h)

section
variable {X : Cx} {T : Calls} {e o i : Expr} {c co ci : C} {pos p : Pos}
theorem asg_go {j : Nat} {D : Ends} {σ : ASt} {H : AHp} (h : RdS X.K (exS T (.asg j c)) D σ H) : tAsg (RdW X.K (evW T c)) (gName j) D σ H := by
  obtain ⟨μ, ρ, st, fl, ρ', st', R, h, k⟩ := h
  simp only [exS] at h
  split at h
  · rename_i x s1 h1
    cases h
    refine stepW R h1 fun μ1 H1 v F1 R1 r1 => ?_
    obtain ⟨μ2, F2, G2, S2, r2⟩ := settle_ok F1 R1.sto r1
    exact k μ2 _ H1 F2 ((R1.fw G2 S2).set r2 j)
  · cases h
theorem s_asg {j : Nat} {x : Str} (hN : X.N.Nodup) (n : NmOk X j x) (he : PEc X T e c) (hs : swapsWith e (some (.Name x p)) pos.line X.env = pure false) : PSc X T (.Assign [.Name x p] e pos) (.asg j c) :=
  psW (ps_set hN n.at_ n.loc he hs n.fn) fun D σ H h => asg_go h
/-- a tuple of names takes a tuple -/
theorem s_asgT {es : List Expr} {is : List Nat} {kk : Nat} (hc : X.calm = true) (hN : X.N.Nodup) (n : NmsOk X es is) (he : PEc X T e c) (ht : isTupE e = false) : PSc X T (.Assign [.Tuple es kk p] e pos) (.asgT is c) :=
  psW (ps_asg he (pg_tg hc hN (.t n)) sw_tup (st_tup ht) rfl) fun D σ H ⟨μ, ρ, st, fl, ρ', st', R, h, k⟩ => by
    simp only [exS] at h
    split at h
    · rename_i d s1 h1
      split at h
      · rename_i ρ1 h2
        cases h
        exact stepW R h1 fun μ1 H1 v F1 R1 r1 => g_ok (.t is) μ1 ρ _ _ σ σ H1 d v _ R1 (.refl ..) r1 h2 fun σ' R' _ => k μ1 σ' H1 F1 R'
      · cases h
    · cases h
/-- several names, several values: the values first -/
theorem par_go {is : List Nat} {cs : List C} {D : Ends} {σ : ASt} {H : AHp} {Q : List V → AHp → Prop} (h : RdS X.K (exS T (.asgP is cs)) D σ H)
    (hq : ∀ (μ1 : List Addr) (H1 : AHp) (s1 : Sto) (ρ : Rho) (ds : List Nx.D) (vs : List V), Rl X.K μ1 ρ s1 σ H1 → RepL X.K μ1 H1 ds vs → ds.length = is.length → ds.length = cs.length →
      (∀ μ2 H2 σ', Fw X.K μ1 H1 μ2 H2 → Rl X.K μ2 ((is.zip ds).foldl (fun r p => r.set p.1 (some p.2)) ρ) s1 σ' H2 → D.nx σ' H2) → Q vs H1) : RdA X.K (evA T cs) σ H Q := by
  obtain ⟨μ, ρ, st, fl, ρ', st', R, h, k⟩ := h
  simp only [exS] at h
  split at h
  · rename_i ds s1 h1
    split at h
    · rename_i hl
      cases h
      exact stepA R h1 fun μ1 H1 vs F1 R1 r1 => hq μ1 H1 _ ρ ds vs R1 r1 hl (evA_length h1) fun μ2 H2 σ' F2 R2 => k μ2 σ' H2 (F1.trans F2) R2
    · cases h
  · cases h
theorem s_asgP {es vs : List Expr} {is : List Nat} {k1 k2 : Nat} {p2 : Pos} {f : Expr → C} (hc : X.calm = true) (hN : X.N.Nodup) (n : NmsOk X es is) (hst : vs.any isStarE = false) (hf : ∀ e, PEc X T e (f e)) (hw : swappedStores [.Tuple es k1 p] (.Tuple vs k2 p2) X.env = pure none) (hz : vs.length ≤ 100) :
    PSc X T (.Assign [.Tuple es k1 p] (.Tuple vs k2 p2) pos) (.asgP is (vs.map f)) :=
  psW (ps_asg (pe_tup (pa_all (T := T) (c := f) hst fun e _ => hf e)) (pg_tg hc hN (.t n)) sw_tup hw rfl) fun D σ H h => by
    refine par_go h fun μ1 H1 s1 ρ ds ws R1 r1 hl hl2 kk => ?_
    have z : ws.length ≤ sizeLine := by
      have := r1.length
      rw [List.length_map] at hl2
      rw [sizeLine_eq]
      omega
    refine ⟨z, fun q hq => ?_⟩
    have F : Fw X.K μ1 H1 μ1 (upd H1 q (.tup ws)) := .fresh hq
    refine g_ok (.t is) μ1 ρ ((is.zip ds).foldl (fun r p => r.set p.1 (some p.2)) ρ) s1 σ σ _ (.tup ds) (.ref q) _ (R1.fw F.toGr (R1.sto.fresh hq)) (.refl ..) (.tup ⟨z, .inl upd_same⟩ (r1.fw F.toGr)) (by simp only [bindTg]; rw [if_pos hl]) fun σ' R' _ => kk μ1 _ σ' F R'
theorem s_par2 {x y : Str} {a b : Expr} {j l : Nat} {px py pt pt2 : Pos} {k1 k2 : Nat} {f : Expr → C} (hc : X.calm = true) (hN : X.N.Nodup) (hj : X.N[j]? = some x) (hl : X.N[l]? = some y) (hjl : j ≠ l) (hx : X.env.scope.names.lookup x = some .local) (hy : X.env.scope.names.lookup y = some .local)
    (hst : ([a, b] : List Expr).any isStarE = false) (hf : ∀ e, PEc X T e (f e)) (hw : swappedStores [.Tuple [.Name x px, .Name y py] k1 pt] (.Tuple [a, b] k2 pt2) X.env = pure (some [x, y])) :
    PSc X T (.Assign [.Tuple [.Name x px, .Name y py] k1 pt] (.Tuple [a, b] k2 pt2) pos) (.asgP [j, l] ([a, b].map f)) :=
  psW (ps_par hc hN hj hl hjl hx hy (pa_all (T := T) (c := f) hst fun e _ => hf e) hw sw_tup) fun D σ H h => by
    refine par_go h fun μ1 H1 s1 ρ ds ws R1 r1 hl hl2 kk => ?_
    match ds, ws, r1, hl with
    | [d1, d2], _, .cons (v := v1) q1 (.cons (v := v2) q2 .nil), _ => exact ⟨v1, v2, rfl, kk μ1 H1 _ (.refl ..) ((R1.set q1 j).set q2 l)⟩
theorem s_par3 {x y z : Str} {a b c : Expr} {j l m : Nat} {px py pz pt pt2 : Pos} {k1 k2 : Nat} {f : Expr → C} (hc : X.calm = true) (hN : X.N.Nodup) (hj : X.N[j]? = some x) (hl : X.N[l]? = some y) (hm : X.N[m]? = some z) (hjl : j ≠ l) (hjm : j ≠ m) (hlm : l ≠ m)
    (hx : X.env.scope.names.lookup x = some .local) (hy : X.env.scope.names.lookup y = some .local) (hz : X.env.scope.names.lookup z = some .local)
    (hst : ([a, b, c] : List Expr).any isStarE = false) (hf : ∀ e, PEc X T e (f e)) (hw : swappedStores [.Tuple [.Name x px, .Name y py, .Name z pz] k1 pt] (.Tuple [a, b, c] k2 pt2) X.env = pure (some [x, y, z])) :
    PSc X T (.Assign [.Tuple [.Name x px, .Name y py, .Name z pz] k1 pt] (.Tuple [a, b, c] k2 pt2) pos) (.asgP [j, l, m] ([a, b, c].map f)) :=
  psW (ps_par3 hc hN hj hl hm hjl hjm hlm hx hy hz (pa_all (T := T) (c := f) hst fun e _ => hf e) hw sw_tup) fun D σ H h => by
    refine par_go h fun μ1 H1 s1 ρ ds ws R1 r1 hl hl2 kk => ?_
    match ds, ws, r1, hl with
    | [d1, d2, d3], _, .cons (v := v1) q1 (.cons (v := v2) q2 (.cons (v := v3) q3 .nil)), _ => exact ⟨v1, v2, v3, rfl, kk μ1 H1 _ (.refl ..) (((R1.set q1 j).set q2 l).set q3 m)⟩
theorem repW_ref {K : PySem.W.Frag} {μ : List Addr} {H0 H : AHp} {l : Nat} {v : V} (r : RepW K H0 μ H (.val (.ref l)) v) : ∃ a, v = .ref a ∧ μ[l]? = some a := by
  cases r with
  | ref h => exact ⟨_, rfl, h⟩
/-- o[i] = d -/
theorem set_go {K : PySem.W.Frag} {μ : List Addr} {st st' : Sto} {H H0 H1 : AHp} {y z : W} {d : Nx.D} {ov iv v : V} {Q : AHp → Prop} (S : StoOk K μ st H) (ry : RepW K H0 μ H y ov) (rz : RepW K H1 μ H z iv) (r : Rep K μ H d v) (h : setIdx y z d st = some st')
    (k : ∀ H', Fw K μ H μ H' → StoOk K μ st' H' → Q H') : rSetAll ov iv v H Q := by
  unfold setIdx at h
  split at h
  · rename_i l
    obtain ⟨a, rfl, hl⟩ := repW_ref ry
    split at h
    · rename_i ds kk hst
      split at h
      · rename_i j hj
        cases h
        cases rz
        obtain ⟨vs, h1, zz, h2⟩ := S.obj l a _ hl hst
        refine .inl ⟨a, vs, kk, j, rfl, rfl, h1, by rw [← h2.length]; exact hj, ?_⟩
        have F : Fw K μ H μ (upd H a (.lst (vs.set j v))) := .write hl h1 True.intro
        exact k _ F (S.write hl h1 True.intro ⟨vs.set j v, upd_same, by rw [List.length_set]; exact zz, (h2.set j r).fw F.toGr⟩)
      · cases h
    · rename_i kvs kd hst
      split at h
      · rename_i kk hk
        split at h
        · rename_i hz
          cases h
          obtain ⟨s, h1, zz, h2⟩ := S.obj l a _ hl hst
          have hv := key_v (show Rep K μ H kd iv from rz) hk
          subst hv
          have F : Fw K μ H μ (upd H a (.dK (putK s kk v))) := .write hl h1 True.intro
          have hs : s.length < 1000 := by rw [← h2.length]; exact hz
          refine .inr ⟨a, _, rfl, DPut.k h1 (by rw [sizeLine_eq]; omega), k _ F (S.write hl h1 True.intro ⟨putK s kk v, upd_same, ?_, (putK_v h2 r).fw F.toGr⟩)⟩
          have := length_putK s kk v
          rw [sizeLine_eq]
          omega
        · cases h
      · cases h
    · cases h
  · cases h
theorem s_asgS (hu : X.A.units + 1 < cLine) (hsl : isSlE i = false) (he : PEc X T e c) (ho : PEc X T o co) (hi : PEc X T i ci) : PSc X T (.Assign [.Subscript o i p] e pos) (.asgS co ci c) :=
  psW (ps_asg he (pg_sub ho hi (set_all hu) (assign_sub hsl)) sw_sub st_sub rfl) fun D σ H ⟨μ, ρ, st, fl, ρ', st', R, h, k⟩ => by
    simp only [exS] at h
    split at h
    · rename_i x s1 h1
      split at h
      · rename_i y s2 h2
        split at h
        · rename_i z s3 h3
          split at h
          · rename_i s4 h4
            cases h
            refine stepW R h1 fun μ1 H1 v F1 R1 r1 => ?_
            obtain ⟨μ2, F2, G2, S2, r2⟩ := settle_ok F1 R1.sto r1
            refine stepW (R1.fw G2 S2) h2 fun μ3 H3 ov F3 R3 r3 => stepW R3 h3 fun μ4 H4 iv F4 R4 r4 => ?_
            exact set_go R4.sto (r3.fw F4) r4 ((r2.fw F3.toGr).fw F4.toGr) h4 fun H5 F5 S5 => k μ4 σ H5 (((F2.trans F3).trans F4).trans F5) (R4.fw F5.toGr S5)
          · cases h
        · cases h
      · cases h
    · cases h
/-- o[i], x = a pair -/
theorem st_go {j : Nat} {D : Ends} {σ : ASt} {H : AHp} (h : RdS X.K (exS T (.asgST co ci j c)) D σ H) :
    tAsg (RdW X.K (evW T c)) (gTup X.K 2 (gCons (gSub (RdW X.K (evW T co)) (RdW X.K (evW T ci)) rSetAll) (gCons (gName j) gNil))) D σ H := by
  obtain ⟨μ, ρ, st, fl, ρ', st', R, h, k⟩ := h
  simp only [exS] at h
  split at h
  · rename_i a b s1 h1
    split at h
    · rename_i y s2 h2
      split at h
      · rename_i z s3 h3
        split at h
        · rename_i s4 h4
          cases h
          refine stepW R h1 fun μ1 H1 v F1 R1 r1 => ?_
          have r1 : Rep X.K μ1 H1 (.tup [a, b]) v := r1
          cases r1 with
          | tup t rr =>
            cases rr with
            | cons q1 rr =>
              cases rr with
              | cons q2 rr =>
                cases rr
                rename_i adr v1 v2
                refine ⟨adr, [v1, v2], rfl, t.sq, rfl, v1, [v2], rfl, ?_⟩
                refine stepW R1 h2 fun μ3 H3 ov F3 R3 r3 => stepW R3 h3 fun μ4 H4 iv F4 R4 r4 => ?_
                refine set_go R4.sto (r3.fw F4) r4 ((q1.fw F3.toGr).fw F4.toGr) h4 fun H5 F5 S5 => ⟨v2, [], rfl, ⟨rfl, ?_⟩⟩
                exact k μ4 _ H5 (((F1.trans F3).trans F4).trans F5) ((R4.fw F5.toGr S5).set (((q2.fw F3.toGr).fw F4.toGr).fw F5.toGr) j)
        · cases h
      · cases h
    · cases h
  · cases h
theorem s_asgST {j : Nat} {x : Str} {px p2 : Pos} {kk : Nat} (hu : X.A.units + 1 < cLine) (hsl : isSlE i = false) (hc : X.calm = true) (hN : X.N.Nodup) (n : NmOk X j x) (he : PEc X T e c) (ht : isTupE e = false) (ho : PEc X T o co) (hi : PEc X T i ci) :
    PSc X T (.Assign [.Tuple [.Subscript o i p, .Name x px] kk p2] e pos) (.asgST co ci j c) := by
  have h1 : PGs X [.Subscript o i p, .Name x px] (gCons (gSub (RdW X.K (evW T co)) (RdW X.K (evW T ci)) rSetAll) (gCons (gName j) gNil)) := pgs_cons (pg_sub ho hi (set_all hu) (assign_sub hsl)) (pgs_cons (pg_name hN n.at_ n.loc n.fn) pgs_nil rfl) rfl
  exact psW (ps_asg he (pg_tup (n := 2) hc h1 rfl rfl) sw_tup (st_tup ht) rfl) fun D σ H h => st_go h
end

/-! which way a tuple is stored -/
def swapC (sc : Scope) (ts vs : List Expr) : Option (Option (List Str)) :=
  if (!(ts.length == 2 || ts.length == 3) || vs.length != ts.length) = true then some none
  else if (vs.any fun e => match e with | .Starred .. => true | _ => false) = true then some none
  else
    let line := (ts.head?.map fun t => t.pos.line).getD 0
    let names := ts.filterMap fun e => match e with
      | .Name id pos => if (sc.names.lookup id == some .local && pos.line == line) = true then some id else none
      | _ => none
    if (names.length != ts.length || names.eraseDups.length != names.length) = true then some none
    else if vs.all (foldedForSure 8) = true then some none
    else if vs.all (constantsAlone 8) = true then none
    else some (some names)
theorem swap_ok {sc : Scope} {ts vs : List Expr} {env : Env} {r : Option (List Str)} {k1 k2 : Nat} {p1 p2 : Pos} (e : env.scope = sc) (hk : sc.kind = .function) (h : swapC sc ts vs = some r) : swappedStores [.Tuple ts k1 p1] (.Tuple vs k2 p2) env = pure r := by
  have hb : env.blockKind = .function := by unfold Env.blockKind; rw [e, hk]; rfl
  have hn : ∀ id, env.kindOf id = sc.names.lookup id := fun id => by rw [← e]; rfl
  unfold swapC at h
  unfold swappedStores
  simp only [hb, hn] at h ⊢
  have kf : (ScopeKind.function != ScopeKind.function) = false := rfl
  rw [kf, Bool.or_false]
  split at h
  · rename_i c1; cases h; exact if_pos c1
  rename_i c1
  refine (if_neg c1).trans ?_
  split at h
  · rename_i c2; cases h; exact if_pos c2
  rename_i c2
  refine (if_neg c2).trans ?_
  split at h
  · rename_i c3; cases h; exact if_pos c3
  rename_i c3
  refine (if_neg c3).trans ?_
  split at h
  · rename_i c4; cases h; exact if_pos c4
  rename_i c4
  refine (if_neg c4).trans ?_
  split at h
  · cases h
  rename_i c5
  refine (if_neg c5).trans ?_
  cases h
  rfl
end Nx

end

section
set_option maxHeartbeats 1000000
/-! Nx19: from the text's statements to the small language, and that it is right. -/
namespace Nx
open PySem PySem.Spec PyProof.Rows L2

def loB (sc : Scope) (x : Str) : Bool := match sc.names.lookup x with
  | some .local => true
  | _ => false
def ceB (sc : Scope) (x : Str) : Bool := match sc.names.lookup x with
  | some .cell => true
  | _ => false
def fnB (sc : Scope) : Bool := match sc.kind with
  | .function => true
  | _ => false
theorem lo_of {sc : Scope} {x : Str} (h : loB sc x = true) : sc.names.lookup x = some .local := by
  unfold loB at h
  split at h
  · assumption
  · cases h
theorem ce_of {sc : Scope} {x : Str} (h : ceB sc x = true) : sc.names.lookup x = some .cell := by
  unfold ceB at h
  split at h
  · assumption
  · cases h
theorem fn_kind {sc : Scope} (h : fnB sc = true) : sc.kind = .function := by
  unfold fnB at h
  split at h
  · assumption
  · cases h
/-- may a comprehension be stored so: the name is none of its own, it stands on the same line -/
def lcOk (sc : Scope) (x : Str) (p : Pos) (scope : Scope) (pos : Pos) : Bool :=
  loB sc x && fnB sc && (p.line == pos.line) && !(scope.names.any fun (n, k) => n == x && (k == .local || k == .cell))
def nameC (cc : CC) (f : Expr → C) (x : Str) (p : Pos) (e : Expr) : S := match nmC cc (.Name x p) with
  | some i => match e with
    | .ListComp elt gens scope pos => if ceB cc.sc x = true then .asg i (f (.ListComp elt gens scope pos)) else if lcOk cc.sc x p scope pos = true then .asg i (f (.ListComp elt gens scope pos)) else .stuck
    | e => if isCompE e = false then .asg i (f e) else .stuck
  | none => .stuck
def par2C (cc : CC) (f : Expr → C) (nms : List Str) (x y : Str) (a b : Expr) : S := match slotOf cc.N x, slotOf cc.N y with
  | some j, some l => if j ≠ l ∧ nms = [x, y] ∧ loB cc.sc x = true ∧ loB cc.sc y = true then .asgP [j, l] ([a, b].map f) else .stuck
  | _, _ => .stuck
def par3C (cc : CC) (f : Expr → C) (nms : List Str) (x y z : Str) (a b c : Expr) : S := match slotOf cc.N x, slotOf cc.N y, slotOf cc.N z with
  | some j, some l, some m => if j ≠ l ∧ j ≠ m ∧ l ≠ m ∧ nms = [x, y, z] ∧ loB cc.sc x = true ∧ loB cc.sc y = true ∧ loB cc.sc z = true then .asgP [j, l, m] ([a, b, c].map f) else .stuck
  | _, _, _ => .stuck
def ttC (cc : CC) (f : Expr → C) (es vs : List Expr) : S :=
  if vs.any isStarE = false ∧ fnB cc.sc = true ∧ vs.length ≤ 100 then match swapC cc.sc es vs with
    | some none => match nmsC cc es with
      | some is => .asgP is (vs.map f)
      | none => .stuck
    | some (some nms) => match es, vs with
      | [.Name x _, .Name y _], [a, b] => par2C cc f nms x y a b
      | [.Name x _, .Name y _, .Name z _], [a, b, c] => par3C cc f nms x y z a b c
      | _, _ => .stuck
    | none => .stuck
  else .stuck
def tvC (cc : CC) (f : Expr → C) (es : List Expr) (e : Expr) : S := match es with
  | [.Subscript o i _, .Name x px] => match nmC cc (.Name x px) with
    | some j => if isSlE i = false then .asgST (f o) (f i) j (f e) else .stuck
    | none => .stuck
  | es => match nmsC cc es with
    | some is => .asgT is (f e)
    | none => .stuck
def asgC (cc : CC) (f : Expr → C) (tg e : Expr) : S := match tg with
  | .Name x p => nameC cc f x p e
  | .Tuple es _ _ => match e with
    | .Tuple vs _ _ => ttC cc f es vs
    | e => tvC cc f es e
  | .Subscript o i _ => if isSlE i = false then .asgS (f o) (f i) (f e) else .stuck
  | _ => .stuck
def cS : Nat → CC → Stmt → S
  | 0, _, _ => .stuck
  | n + 1, cc, st => match st with
    | .Pass _ => .pass
    | .Break _ => .brk
    | .Continue _ => .cont
    | .Return none _ => .retN
    | .Return (some e) _ => .ret (cE n cc e)
    | .Expr e _ => if isCompE e = false then .ex (cE n cc e) else .stuck
    | .If c a b _ => .ite (cE n cc c) (a.map (cS n cc)) (b.map (cS n cc))
    | .While c b [] _ => .wh (cE n cc c) (b.map (cS n cc))
    | .For tg iter b [] _ => match tgC cc tg with
      | some tgt => if isSetE iter = false then .for_ (iterC cc (cE n cc) tg iter).1 (iterC cc (cE n cc) tg iter).2 tgt (b.map (cS n cc)) else .stuck
      | none => .stuck
    | .Assign [tg] e _ => asgC cc (cE n cc) tg e
    | _ => .stuck

section
variable {T : Calls} {k : Nat} {cc : CC} {X : Cx} (O : XOk T k cc X)
include O
theorem XOk.own : PassesOwn (model X.prog X.w) X.A X.env X.xe := by
  rw [O.xe]
  exact PassesOwn.never
/-- name = [..] -/
theorem lc_asg {n : Nat} {i : Nat} {x : Str} {py pos spos : Pos} {elt : Expr} {gens : List Comprehension} {scope : Scope} (nm : NmOk X i x) (h : lcOk cc.sc x py scope pos = true) :
    PSc X T (.Assign [.Name x py] (.ListComp elt gens scope pos) spos) (.asg i (cE n cc (.ListComp elt gens scope pos))) := by
  have dead : ∀ st, PSc X T st (.asg i .stuck) := fun st => ⟨fun pins s σ H D I ⟨μ, ρ, st, fl, ρ', st', R, h, k⟩ => by simp [exS, evW] at h⟩
  unfold lcOk at h
  simp only [Bool.and_eq_true, Bool.not_eq_true'] at h
  obtain ⟨⟨⟨h1, h2⟩, h3⟩, h4⟩ := h
  have hy : X.env.scope.names.lookup x = some .local := by rw [O.sc]; exact lo_of h1
  have hk : X.env.scope.kind = .function := by rw [O.sc]; exact fn_kind h2
  cases n with
  | zero => exact dead _
  | succ n =>
    have hf : ∀ e, PEc X T e (cE n cc e) := fun e => (cE_ok n cc X O e).1
    show PSc X T _ (.asg i (compC cc (cE n cc) (cE n (cc.blk scope)) elt gens scope))
    unfold compC
    split
    · rename_i tg iter ifs
      split
      · rename_i tgt htg
        dsimp only
        split
        · rename_i h
          obtain ⟨g1, g2, g3⟩ := h
          have ok : BlkOk X.N X.env.scope scope ((tgNames tg).zip (tgIx tgt)) := by
            rw [O.N, O.sc]
            exact blkOk_by g2
          have hi := iter_ok O hf (tg := tg) (iter := iter)
          have hg : ∀ (s : Shared) (H : AHp) (C : Addr) (cl : List (Str × Addr)) (fp : List Addr), PG (X.blk s H scope (compEnvC scope cl C X.env) fp) tg (gOfT X.K tgt) := fun s H C cl fp => pg_tg (X := X.blk s H scope (compEnvC scope cl C X.env) fp) O.calm O.nd (tg_ok O.blk htg)
          split
          · rename_i kind as hk'
            rw [hk'] at hi
            exact psW (ps_setLc O.calm O.nd nm.at_ hy (sw_true hk hy h3 h4) hi ok hg (fun s H C cl fp => pts_none) (fun s H C cl fp => (cE_ok n _ _ O.blk elt).1) (notSet g3)) fun D σ H q => lc_go g1 (asg_go q)
          · rename_i kind as c hk'
            rw [hk'] at hi
            exact psW (ps_setLc O.calm O.nd nm.at_ hy (sw_true hk hy h3 h4) hi ok hg (fun s H C cl fp => pts_one (cE_ok n _ _ O.blk c).2) (fun s H C cl fp => (cE_ok n _ _ O.blk elt).1) (notSet g3)) fun D σ H q => lc_go g1 (asg_go q)
          · exact dead _
        · exact dead _
      · exact dead _
    · exact dead _
theorem name_ok {n : Nat} {x : Str} {p pos : Pos} {e : Expr} : PSc X T (.Assign [.Name x p] e pos) (nameC cc (cE n cc) x p e) := by
  have hf : ∀ e, PEc X T e (cE n cc e) := fun e => (cE_ok n cc X O e).1
  unfold nameC
  split
  · rename_i i hi
    obtain ⟨x', p', e', nm⟩ := nm_ok O hi
    cases e'
    split
    · rename_i elt gens scope pos'
      split
      · rename_i hc
        exact s_asg O.nd nm (hf _) (sw_cell (by rw [O.sc]; exact ce_of hc))
      · split
        · rename_i h
          exact lc_asg O nm h
        · exact ps_stuck
    · split
      · rename_i h
        exact s_asg O.nd nm (hf _) (sw_no h)
      · exact ps_stuck
  · exact ps_stuck
theorem tt_ok {n : Nat} {es vs : List Expr} {k1 k2 : Nat} {p p2 pos : Pos} : PSc X T (.Assign [.Tuple es k1 p] (.Tuple vs k2 p2) pos) (ttC cc (cE n cc) es vs) := by
  have hf : ∀ e, PEc X T e (cE n cc e) := fun e => (cE_ok n cc X O e).1
  unfold ttC
  split
  · rename_i h
    obtain ⟨h1, h2, h3⟩ := h
    split
    · rename_i hs
      split
      · rename_i is hi
        exact s_asgP O.calm O.nd (nms_ok O hi) h1 hf (swap_ok O.sc (fn_kind h2) hs) h3
      · exact ps_stuck
    · rename_i nms hs
      split
      · rename_i x px y py a b
        unfold par2C
        split
        · rename_i j l hj hl
          split
          · rename_i hh
            obtain ⟨g1, g2, g3, g4⟩ := hh
            subst g2
            exact s_par2 O.calm O.nd (by rw [O.N]; exact slot_get hj) (by rw [O.N]; exact slot_get hl) g1 (by rw [O.sc]; exact lo_of g3) (by rw [O.sc]; exact lo_of g4) h1 hf (swap_ok O.sc (fn_kind h2) hs)
          · exact ps_stuck
        · exact ps_stuck
      · rename_i x px y py z pz a b c
        unfold par3C
        split
        · rename_i j l m hj hl hm
          split
          · rename_i hh
            obtain ⟨g1, g2, g3, g4, g5, g6, g7⟩ := hh
            subst g4
            exact s_par3 O.calm O.nd (by rw [O.N]; exact slot_get hj) (by rw [O.N]; exact slot_get hl) (by rw [O.N]; exact slot_get hm) g1 g2 g3 (by rw [O.sc]; exact lo_of g5) (by rw [O.sc]; exact lo_of g6) (by rw [O.sc]; exact lo_of g7) h1 hf (swap_ok O.sc (fn_kind h2) hs)
          · exact ps_stuck
        · exact ps_stuck
      · exact ps_stuck
    · exact ps_stuck
  · exact ps_stuck
theorem tv_ok {n : Nat} {es : List Expr} {e : Expr} {k1 : Nat} {p pos : Pos} (ht : isTupE e = false) : PSc X T (.Assign [.Tuple es k1 p] e pos) (tvC cc (cE n cc) es e) := by
  have hu := O.room.un
  have hf : ∀ e, PEc X T e (cE n cc e) := fun e => (cE_ok n cc X O e).1
  unfold tvC
  split
  · rename_i o i ps x px
    split
    · rename_i j hj
      obtain ⟨x', p', e', nm⟩ := nm_ok O hj
      cases e'
      split
      · rename_i h
        exact s_asgST (by omega) h O.calm O.nd nm (hf _) ht (hf _) (hf _)
      · exact ps_stuck
    · exact ps_stuck
  · split
    · rename_i is hi
      exact s_asgT O.calm O.nd (nms_ok O hi) (hf _) ht
    · exact ps_stuck
theorem asg_ok {n : Nat} {tg e : Expr} {pos : Pos} : PSc X T (.Assign [tg] e pos) (asgC cc (cE n cc) tg e) := by
  have hu := O.room.un
  have hf : ∀ e, PEc X T e (cE n cc e) := fun e => (cE_ok n cc X O e).1
  unfold asgC
  split
  · exact name_ok O
  · split
    · exact tt_ok O
    · rename_i h
      refine tv_ok O ?_
      cases e with
      | Tuple vs k2 p2 => exact absurd rfl (h vs k2 p2)
      | _ => rfl
  · split
    · rename_i h
      exact s_asgS (by omega) h (hf _) (hf _) (hf _)
    · exact ps_stuck
  · exact ps_stuck
theorem ss_map {f : Stmt → S} (h : ∀ st, PSc X T st (f st)) : ∀ (sts : List Stmt), PSsc X T sts (sts.map f)
  | [] => ss_nil
  | st :: r => ss_cons (h st) (ss_map h r)
theorem cS_ok : ∀ (n : Nat) (st : Stmt), PSc X T st (cS n cc st)
  | 0, st => ps_stuck
  | n + 1, st => by
    have hf : ∀ e, PEc X T e (cE n cc e) := fun e => (cE_ok n cc X O e).1
    have ht : ∀ e, PTc X T e (cE n cc e) := fun e => (cE_ok n cc X O e).2
    have ih := cS_ok n
    unfold cS
    split
    · exact s_pass
    · exact s_brk
    · exact s_cont
    · exact s_retN
    · exact s_ret (hf _)
    · split
      · rename_i h
        exact s_ex (hf _) (sw_no h)
      · exact ps_stuck
    · exact s_if (ht _) (ss_map O ih _) (ss_map O ih _)
    · exact s_while O.own (ht _) (ss_map O ih _)
    · split
      · rename_i tgt htg
        split
        · rename_i h
          exact s_for O.own O.calm (iter_ok O hf) (pg_tg O.calm O.nd (tg_ok O htg)) (ss_map O ih _) (notSet h)
        · exact ps_stuck
      · exact ps_stuck
    · exact asg_ok O
    · exact ps_stuck
theorem body_ok (n : Nat) (sts : List Stmt) : PSsc X T sts (sts.map (cS n cc)) := ss_map O (cS_ok O n) sts
end
end Nx

end

section
set_option maxHeartbeats 1000000
/-! Nx20: how arguments are bound to plain parameters, by place and by name. -/
namespace Nx
open PySem PySem.Spec PyProof.Rows L2
theorem kw_loop {ps : List Str} (f : Str × Value → List (Str × Value) × List (Str × Value) → Sem (ForInStep (List (Str × Value) × List (Str × Value))))
    (hf : ∀ k v sl ex, k ∈ ps → sl.lookup k = none → f (k, v) (sl, ex) = pure (.yield (sl ++ [(k, v)], ex))) :
    ∀ (kws sl ex : List (Str × Value)), (∀ p ∈ kws, p.1 ∈ ps) → (kws.map (·.1)).Nodup → (∀ p ∈ kws, sl.lookup p.1 = none) → forIn kws (sl, ex) f = pure (sl ++ kws, ex)
  | [], sl, ex, _, _, _ => by rw [List.forIn_nil, List.append_nil]
  | (k, v) :: r, sl, ex, h1, h2, h3 => by
    rw [List.forIn_cons, hf k v sl ex (h1 (k, v) (by simp)) (h3 (k, v) (by simp))]
    show forIn r (sl ++ [(k, v)], ex) f = _
    have hk : k ∉ r.map (·.1) := (List.nodup_cons.mp h2).1
    rw [kw_loop f hf r (sl ++ [(k, v)]) ex (fun p hp => h1 p (by simp [hp])) (List.nodup_cons.mp h2).2 fun p hp => ?_, List.append_assoc]
    · rfl
    · rw [List.lookup_append, h3 p (by simp [hp])]
      have ne : p.1 ≠ k := fun e => hk (e ▸ List.mem_map_of_mem hp)
      have nb : (p.1 == k) = false := by simpa using ne
      simp [List.lookup, nb]
theorem lookup_zip : ∀ {ks : List Str} {ws : List Value} {x : Str}, x ∈ ks → (ks.zip ws).lookup x = ws[ks.idxOf x]?
  | [], _, _, h => by simp at h
  | k :: r, [], x, h => by simp [List.lookup]
  | k :: r, w :: t, x, h => by
    rw [List.zip_cons_cons, List.lookup_cons, List.idxOf_cons]
    by_cases e : x = k
    · subst e
      simp
    · have e1 : (x == k) = false := by simpa using e
      have e2 : (k == x) = false := by simpa using fun q => e q.symm
      rw [e1, e2]
      have hx : x ∈ r := by
        rcases List.mem_cons.mp h with q | q
        · exact absurd q e
        · exact q
      simp [lookup_zip hx]
theorem idx_nodup : ∀ {ps : List Str} {i : Nat} {x : Str}, ps.Nodup → ps[i]? = some x → ps.idxOf x = i
  | [], i, x, _, h => by simp at h
  | p :: r, 0, x, _, h => by
    simp at h
    subst h
    simp
  | p :: r, i + 1, x, n, h => by
    have h' : r[i]? = some x := by simpa using h
    obtain ⟨n1, n2⟩ := List.nodup_cons.mp n
    have ne : p ≠ x := fun e => n1 (e ▸ List.mem_of_getElem? h')
    rw [List.idxOf_cons]
    have e2 : (p == x) = false := by simpa using ne
    rw [e2, idx_nodup n2 h']
    simp
theorem mapM_get {f : Nat → Option Value} : ∀ {l : List Nat} {bs : List Value}, l.mapM f = some bs → bs.length = l.length ∧ ∀ (i j : Nat), l[i]? = some j → f j = bs[i]?
  | [], bs, h => by
    simp at h
    subst h
    simp
  | a :: l, bs, h => by
    simp only [List.mapM_cons, Option.bind_eq_bind, Option.bind_eq_some_iff, Option.pure_def, Option.some.injEq] at h
    obtain ⟨b, h1, r, h2, rfl⟩ := h
    obtain ⟨q1, q2⟩ := mapM_get h2
    refine ⟨by simp [q1], fun i j hi => ?_⟩
    cases i with
    | zero =>
      simp at hi
      subst hi
      simpa using h1
    | succ i => simpa using q2 i j (by simpa using hi)
theorem filter_zip {g : Str → Option Value} : ∀ {ps : List Str} {bs : List Value}, bs.length = ps.length → (∀ (i : Nat) (x : Str), ps[i]? = some x → g x = bs[i]?) → ps.filterMap (fun n => (g n).map (n, ·)) = ps.zip bs
  | [], bs, _, _ => by simp
  | p :: r, [], h, _ => by simp at h
  | p :: r, b :: t, h, k => by
    have e : g p = some b := k 0 p rfl
    rw [List.filterMap_cons, e]
    have ih := filter_zip (g := g) (ps := r) (bs := t) (by simpa using h) fun i x hi => by simpa using k (i + 1) x (by simpa using hi)
    simp only [Option.map_some, List.zip_cons_cons]
    rw [ih]
theorem zip_keys : ∀ (ps : List Str) (us : List Value), (ps.zip us).map (·.1) = ps.take us.length
  | [], us => by simp
  | p :: r, [] => by simp
  | p :: r, u :: t => by
    rw [List.zip_cons_cons, List.map_cons, List.length_cons, List.take_succ_cons, zip_keys r t]
theorem look_none {l : List (Str × Value)} {k : Str} (h : k ∉ l.map (·.1)) : l.lookup k = none := by
  rw [List.lookup_eq_none_iff]
  intro p hp
  have : k ≠ p.1 := fun e => h (e ▸ List.mem_map_of_mem hp)
  simpa using this
/-- of two lists of one length without doubles, one within the other -/
theorem mem_of_sub : ∀ {as bs : List Str}, as.Nodup → (∀ x ∈ as, x ∈ bs) → bs.length ≤ as.length → ∀ {k : Str}, k ∈ bs → k ∈ as
  | [], bs, _, _, hl, k, hk => by
    have : bs = [] := List.length_eq_zero_iff.mp (by simpa using hl)
    rw [this] at hk
    exact hk
  | a :: as, bs, n, h, hl, k, hk => by
    obtain ⟨n1, n2⟩ := List.nodup_cons.mp n
    by_cases e : k = a
    · simp [e]
    · have ha : a ∈ bs := h a (by simp)
      have l1 : (bs.erase a).length + 1 = bs.length := by
        rw [List.length_erase_of_mem ha]
        have : 0 < bs.length := List.length_pos_of_mem ha
        omega
      have q := mem_of_sub n2 (bs := bs.erase a) (fun x hx => (List.mem_erase_of_ne (fun z => n1 (by rw [← z]; exact hx))).mpr (h x (by simp [hx]))) (by simp at hl; omega) ((List.mem_erase_of_ne e).mpr hk)
      simp [q]
theorem bind_ok {fd : FuncData} {ps ks : List Str} {as : List Arg} {us ws : List Value}
    (hp : fd.params = ⟨[], as, none, [], [], none, []⟩) (hps : as.map (·.arg) = ps) (hd : fd.defaults = .none) (hn : us.length + ks.length = ps.length) (hw : ws.length = ks.length) (h2 : ps.Nodup) (h3 : ks.Nodup)
    (h4 : ∀ x ∈ ps.drop us.length, x ∈ ks) {bs : List Value} (hb : (List.range us.length ++ (ps.drop us.length).map fun x => us.length + ks.idxOf x).mapM (fun i => (us ++ ws)[i]?) = some bs) :
    bindArgs fd ⟨us, ks.zip ws⟩ = pure (ps.zip bs) := by
  have key : (ks.zip ws).map (·.1) = ks := by
    rw [zip_keys, hw, List.take_length]
  -- the names given by keyword are those behind
  have h1 : ∀ k ∈ ks, k ∈ ps.drop us.length := by
    have ld : (ps.drop us.length).length = ks.length := by rw [List.length_drop]; omega
    have nd : (ps.drop us.length).Nodup := h2.sublist (List.drop_sublist _ _)
    intro k hk
    exact mem_of_sub nd h4 (by omega) hk
  have apart : ∀ k ∈ ks, k ∉ ps.take us.length := fun k hk q => by
    have e := List.take_append_drop us.length ps
    rw [← e] at h2
    exact (List.nodup_append.mp h2).2.2 k q k (h1 k hk) rfl
  have none_of : ∀ k ∈ ks, (ps.zip us).lookup k = none := fun k hk => look_none (by rw [zip_keys]; exact apart k hk)
  -- what each parameter finds
  have found : ∀ (i : Nat) (x : Str), ps[i]? = some x → (ps.zip us ++ ks.zip ws).lookup x = bs[i]? := by
    intro i x hi
    obtain ⟨q1, q2⟩ := mapM_get hb
    have hx : x ∈ ps := List.mem_of_getElem? hi
    have hl : i < ps.length := (List.getElem?_eq_some_iff.mp hi).1
    rw [List.lookup_append, lookup_zip hx, idx_nodup h2 hi]
    by_cases hc : i < us.length
    · have e := q2 i i (by rw [List.getElem?_append_left (by simpa using hc)]; simp [hc])
      rw [← e, List.getElem?_append_left hc, List.getElem?_eq_getElem hc]
      rfl
    · have hd : (ps.drop us.length)[i - us.length]? = some x := by rw [List.getElem?_drop]; rw [show us.length + (i - us.length) = i by omega]; exact hi
      have hk : x ∈ ks := h4 x (List.mem_of_getElem? hd)
      have e := q2 i (us.length + ks.idxOf x) (by
        rw [List.getElem?_append_right (by simp; omega), List.getElem?_map, List.length_range, hd]
        rfl)
      rw [← e, List.getElem?_append_right (by omega), List.getElem?_eq_none (by omega), lookup_zip hk]
      rw [show us.length + ks.idxOf x - us.length = ks.idxOf x by omega]
      rfl
  have len : bs.length = ps.length := by
    rw [(mapM_get hb).1]
    simp
    omega
  unfold bindArgs
  rw [hp, hd]
  simp only [hps, List.map_nil, List.nil_append, List.append_nil, List.forIn_nil]
  rw [kw_loop (ps := ps) _ ?_ (ks.zip ws) (ps.zip us) [] ?_ ?_ ?_]
  · have e1 : seqItems? Value.none = pure none := rfl
    rw [e1]
    have e2 : (decide (us.length > ps.length) && (none : Option Arg).isNone) = false := by simp; omega
    have e3 : (!(List.filter (fun n => (List.lookup n (ps.zip us ++ ks.zip ws)).isNone) (List.take (ps.length - (List.drop (((none : Option (Array Value)).getD #[]).toList.length - ps.length) ((none : Option (Array Value)).getD #[]).toList).length) ps)).isEmpty) = false := by
      have z : List.filter (fun n => (List.lookup n (ps.zip us ++ ks.zip ws)).isNone) (List.take (ps.length - (List.drop (((none : Option (Array Value)).getD #[]).toList.length - ps.length) ((none : Option (Array Value)).getD #[]).toList).length) ps) = [] := by
        rw [List.filter_eq_nil_iff]
        intro x hx
        have hx' : x ∈ ps := List.mem_of_mem_take hx
        obtain ⟨i, hi⟩ := List.getElem?_of_mem hx'
        rw [found i x hi]
        have hl : i < bs.length := by rw [len]; exact (List.getElem?_eq_some_iff.mp hi).1
        simp [hl]
      rw [z]
      rfl
    show (if (decide (us.length > ps.length) && (none : Option Arg).isNone) = true then _ else (if (!(List.filter (fun n => (List.lookup n (ps.zip us ++ ks.zip ws)).isNone) (List.take (ps.length - (List.drop (((none : Option (Array Value)).getD #[]).toList.length - ps.length) ((none : Option (Array Value)).getD #[]).toList).length) ps)).isEmpty) = true then _ else _)) = _
    rw [e2, e3, if_neg Bool.false_ne_true, if_neg Bool.false_ne_true]
    rw [← filter_zip (g := fun x => (ps.zip us ++ ks.zip ws).lookup x) len found]
    simp
  · intro k v sl ex hk hl
    simp [hk, hl]
  · intro p hp
    have q : p.1 ∈ (ks.zip ws).map (·.1) := List.mem_map_of_mem hp
    rw [key] at q
    exact List.mem_of_mem_drop (h1 p.1 q)
  · rw [key]; exact h3
  · intro p hp
    have q : p.1 ∈ (ks.zip ws).map (·.1) := List.mem_map_of_mem hp
    rw [key] at q
    exact none_of p.1 q
end Nx

end

section
set_option maxHeartbeats 1000000
/-! Nx21: the table of a module's defs: each keeps the promise that its text in the small language makes. -/
namespace Nx
open PySem PySem.Spec PyProof.Rows L2

mutual
def eqC : C → C → Bool
  | .k d, .k e => eqDs d e
  | .v i, .v j => i == j
  | .stuck, .stuck => true
  | .p1 o a, .p1 o' a' => decide (o = o') && eqC a a'
  | .p2 o a b, .p2 o' a' b' => decide (o = o') && (eqC a a' && eqC b b')
  | .p3 o a b c, .p3 o' a' b' c' => decide (o = o') && (eqC a a' && (eqC b b' && eqC c c'))
  | .m1 r o a b, .m1 r' o' a' b' => decide (r = r') && (decide (o = o') && (eqC a a' && eqC b b'))
  | .m2 r o a b c, .m2 r' o' a' b' c' => decide (r = r') && (decide (o = o') && (eqC a a' && (eqC b b' && eqC c c')))
  | .and a b, .and a' b' => eqC a a' && eqC b b'
  | .or a b, .or a' b' => eqC a a' && eqC b b'
  | .ite a b c, .ite a' b' c' => eqC a a' && (eqC b b' && eqC c c')
  | .chain o p a b c, .chain o' p' a' b' c' => decide (o = o') && (decide (p = p') && (eqC a a' && (eqC b b' && eqC c c')))
  | .tup as, .tup bs => eqCl as bs
  | .lst as, .lst bs => eqCl as bs
  | .dict as, .dict bs => eqCl as bs
  | .call f as p, .call g bs q => (f == g) && (decide (p = q) && eqCl as bs)
  | .comp k as t c e, .comp k' as' t' c' e' => (k == k') && (decide (t = t') && (eqCl as as' && (eqC c c' && eqC e e')))
  | _, _ => false
def eqCl : List C → List C → Bool
  | [], [] => true
  | a :: as, b :: bs => eqC a b && eqCl as bs
  | _, _ => false
end
mutual
def eqS : S → S → Bool
  | .asg i e, .asg j f => (i == j) && eqC e f
  | .asgT i e, .asgT j f => decide (i = j) && eqC e f
  | .asgP i e, .asgP j f => decide (i = j) && eqCl e f
  | .asgS a b c, .asgS a' b' c' => eqC a a' && (eqC b b' && eqC c c')
  | .asgST a b i c, .asgST a' b' j c' => (i == j) && (eqC a a' && (eqC b b' && eqC c c'))
  | .ex e, .ex f => eqC e f
  | .ret e, .ret f => eqC e f
  | .retN, .retN => true
  | .ite c a b, .ite c' a' b' => eqC c c' && (eqSl a a' && eqSl b b')
  | .for_ k as t b, .for_ k' as' t' b' => (k == k') && (decide (t = t') && (eqCl as as' && eqSl b b'))
  | .wh c b, .wh c' b' => eqC c c' && eqSl b b'
  | .brk, .brk => true
  | .cont, .cont => true
  | .pass, .pass => true
  | .stuck, .stuck => true
  | _, _ => false
def eqSl : List S → List S → Bool
  | [], [] => true
  | a :: as, b :: bs => eqS a b && eqSl as bs
  | _, _ => false
end
mutual
theorem eqC_eq : ∀ {a b : C}, eqC a b = true → a = b := by
  intro a b h
  cases a <;> cases b <;> simp only [eqC, Bool.and_eq_true, decide_eq_true_eq, beq_iff_eq, Bool.false_eq_true, reduceCtorEq] at h ⊢
  case k.k => rw [eqDs_eq h]
  case v.v => rw [h]
  case p1.p1 => rw [h.1, eqC_eq h.2]
  case p2.p2 => rw [h.1, eqC_eq h.2.1, eqC_eq h.2.2]
  case p3.p3 => rw [h.1, eqC_eq h.2.1, eqC_eq h.2.2.1, eqC_eq h.2.2.2]
  case m1.m1 => rw [h.1, h.2.1, eqC_eq h.2.2.1, eqC_eq h.2.2.2]
  case m2.m2 => rw [h.1, h.2.1, eqC_eq h.2.2.1, eqC_eq h.2.2.2.1, eqC_eq h.2.2.2.2]
  case and.and => rw [eqC_eq h.1, eqC_eq h.2]
  case or.or => rw [eqC_eq h.1, eqC_eq h.2]
  case ite.ite => rw [eqC_eq h.1, eqC_eq h.2.1, eqC_eq h.2.2]
  case chain.chain => rw [h.1, h.2.1, eqC_eq h.2.2.1, eqC_eq h.2.2.2.1, eqC_eq h.2.2.2.2]
  case tup.tup => rw [eqCl_eq h]
  case lst.lst => rw [eqCl_eq h]
  case dict.dict => rw [eqCl_eq h]
  case call.call => rw [h.1, h.2.1, eqCl_eq h.2.2]
  case comp.comp => rw [h.1, h.2.1, eqCl_eq h.2.2.1, eqC_eq h.2.2.2.1, eqC_eq h.2.2.2.2]
theorem eqCl_eq : ∀ {a b : List C}, eqCl a b = true → a = b
  | [], [], _ => rfl
  | a :: as, b :: bs, h => by
    simp only [eqCl, Bool.and_eq_true] at h
    rw [eqC_eq h.1, eqCl_eq h.2]
  | [], _ :: _, h => by simp [eqCl] at h
  | _ :: _, [], h => by simp [eqCl] at h
end
mutual
theorem eqS_eq : ∀ {a b : S}, eqS a b = true → a = b := by
  intro a b h
  cases a <;> cases b <;> simp only [eqS, Bool.and_eq_true, decide_eq_true_eq, beq_iff_eq, Bool.false_eq_true, reduceCtorEq] at h ⊢
  case asg.asg => rw [h.1, eqC_eq h.2]
  case asgT.asgT => rw [h.1, eqC_eq h.2]
  case asgP.asgP => rw [h.1, eqCl_eq h.2]
  case asgS.asgS => rw [eqC_eq h.1, eqC_eq h.2.1, eqC_eq h.2.2]
  case asgST.asgST => rw [h.1, eqC_eq h.2.1, eqC_eq h.2.2.1, eqC_eq h.2.2.2]
  case ex.ex => rw [eqC_eq h]
  case ret.ret => rw [eqC_eq h]
  case ite.ite => rw [eqC_eq h.1, eqSl_eq h.2.1, eqSl_eq h.2.2]
  case for_.for_ => rw [h.1, h.2.1, eqCl_eq h.2.2.1, eqSl_eq h.2.2.2]
  case wh.wh => rw [eqC_eq h.1, eqSl_eq h.2]
theorem eqSl_eq : ∀ {a b : List S}, eqSl a b = true → a = b
  | [], [], _ => rfl
  | a :: as, b :: bs, h => by
    simp only [eqSl, Bool.and_eq_true] at h
    rw [eqS_eq h.1, eqSl_eq h.2]
  | [], _ :: _, h => by simp [eqSl] at h
  | _ :: _, [], h => by simp [eqSl] at h
end

/-- a def: its name, its text, its parameters, its slots (parameters first), its body in the small language -/
structure DefE where
  x : Str
  st : Stmt
  ps : List Str
  N : List Str
  body : List S
def fnsFrom (x : Str) : Nat → List DefE → Option (Nat × List Str)
  | _, [] => none
  | i, d :: r => if d.x = x then some (i, d.ps) else fnsFrom x (i + 1) r
theorem fns_at {x : Str} : ∀ {ds : List DefE} {i j : Nat} {ps : List Str}, fnsFrom x i ds = some (j, ps) → ∃ d, i ≤ j ∧ ds[j - i]? = some d ∧ d.x = x ∧ d.ps = ps
  | [], _, _, _, h => by simp [fnsFrom] at h
  | d :: r, i, j, ps, h => by
    simp only [fnsFrom] at h
    split at h
    · rename_i e
      cases h
      exact ⟨d, Nat.le_refl _, by simp, e, rfl⟩
    · obtain ⟨d', h1, h2, h3, h4⟩ := fns_at h
      refine ⟨d', by omega, ?_, h3, h4⟩
      rw [show j - i = (j - (i + 1)) + 1 by omega]
      simpa using h2
def tabOf (ds : List DefE) (i : Nat) : Option Fn := match ds[i]? with
  | some d => some ⟨d.ps.length, d.N.length, d.body⟩
  | none => none
def ccOf (ds : List DefE) (con : Str → Option D) (blt : List Str) (d : DefE) : CC :=
  ⟨d.N, defScope d.st, con, fun x => fnsFrom x 0 ds, fun x => decide (x ∈ blt), locB (defScope d.st)⟩
def plainArgs (a : Arguments) (ps : List Str) : Bool := match a with
  | ⟨[], as, none, [], [], none, []⟩ => decide (as.map (·.arg) = ps)
  | _ => false
def chkDef (ds : List DefE) (con : Str → Option D) (blt : List Str) (d : DefE) : Bool :=
  fnB (defScope d.st) && (!(defScope d.st).isCoroutine && (!(defScope d.st).isGenerator && (decide d.N.Nodup && (decide (d.N.take d.ps.length = d.ps) && (d.ps.all (locB (defScope d.st)) &&
    ((defScope d.st).names.all (fun y => decide (y.2 ≠ .free)) && (plainArgs (defArgs d.st) d.ps && eqSl ((defBody d.st).map (cS 60 (ccOf ds con blt d))) d.body)))))))
theorem plain_args {a : Arguments} {ps : List Str} (h : plainArgs a ps = true) : ∃ as : List Arg, a = ⟨[], as, none, [], [], none, []⟩ ∧ as.map (·.arg) = ps := by
  unfold plainArgs at h
  split at h
  · exact ⟨_, rfl, of_decide_eq_true h⟩
  · cases h
theorem chk_scope {ds : List DefE} {con : Str → Option D} {blt : List Str} {d : DefE} (h : chkDef ds con blt d = true) : FnScope d.N d.ps (defScope d.st) ∧ plainArgs (defArgs d.st) d.ps = true ∧ (defBody d.st).map (cS 60 (ccOf ds con blt d)) = d.body := by
  unfold chkDef at h
  simp only [Bool.and_eq_true, Bool.not_eq_true', decide_eq_true_eq, List.all_eq_true] at h
  obtain ⟨h1, h2, h3, h4, h5, h6, h7, h8, h9⟩ := h
  refine ⟨⟨fn_kind h1, h2, h3, h4, h5, fun x hx => ?_, h7⟩, h8, eqSl_eq h9⟩
  have q := h6 x hx
  unfold locB at q
  split at q
  · exact .inl (by assumption)
  · exact .inr (by assumption)
  · cases q
structure ModOk (K : PySem.W.Frag) (mg : Str → Option Value) (ds : List DefE) (con : Str → Option D) (blt : List Str) : Prop where
  defs : ∀ d ∈ ds, ∃ f fd, Fun K d.x d.x d.st f fd ∧ mg d.x = some (.ref f)
  con : ∀ x d, con x = some d → ∃ v u, mg x = some u ∧ RelV v u ∧ ∀ μ H, Rep K μ H d v
  blt : ∀ x ∈ blt, mg x = none

/-- a def keeps the promise that its body keeps -/
theorem fnG_of {P : Program} {w : World} {K : PySem.W.Frag} {mg : Str → Option Value} {base : Heap} {k : Nat} {f : Addr} {x : Str} {st : Stmt} {fd : FuncData} {N ps : List Str} {sp : List V → AHp → VK → Prop}
    (F : Fun K x x st f fd) (S : FnScope N ps (defScope st)) (len : ∀ vs H Q, sp vs H Q → vs.length = ps.length)
    (hbody : ∀ (cdv : Value) (A : Around) (outer : List Env) (s : Shared) (H : AHp) (vs : List V) (Q : VK), Room k (A.deeper (envOfC x (defScope st) s.heap.objs.size f cdv)) → (A.deeper (envOfC x (defScope st) s.heap.objs.size f cdv)).guards = some [] → sp vs H Q →
      ∃ t, PSs (cxOf CX0 P w K mg base N x (defScope st) f cdv A outer s H E0).nox (defBody st) t ∧ t { nx := fun _ H' => Q .non H', rt := Q } (start N vs) H) : FnG P w K mg base (k + 1) f fd ps sp := by
  obtain ⟨oc, od, kV, doc, pm, an, cdv, ct, osl, efd, look, code⟩ := F.ex
  subst efd
  constructor
  · exact len
  intro A outer s H args us vs Q room gd env bound rel promise
  have many := len _ _ _ promise
  have known : K.In s.heap := env.mod.kin.keeps fun b o e => (env.bs b o e).1
  have nolim : s.heap.NoLimit := env.mod.nolimit.keeps fun b o e => (env.bs b o e).1
  have params : ∀ y ∈ ps.zip us, (defScope st).names.lookup y.1 = some .local ∨ ((defScope st).names.lookup y.1 = some .cell ∧ ((cellsFrom (s.heap.objs.size + 1) (defScope st).names []).lookup y.1).isSome = true) := by
    rintro ⟨n, v⟩ hy
    have q := S.par n (List.of_mem_zip hy).1
    rcases q with q | q
    · exact Or.inl q
    · exact Or.inr ⟨q, PySem.W.cellsFrom_some _ _ _ (Or.inl q)⟩
  refine codeAny_call_function room.depth (known _ _ look) rfl S.co S.gen rfl (PySem.W.codeRec_of known code) (bound _ _ _ _ ?_)
  refine wpAny_newFunctionEnv_cells S.kind params fun env' he s' x' => ?_
  subst he
  refine ⟨nolim.keeps x'.toInCall.keep, codeAny_func ?_⟩
  have gd' : (A.deeper (envOfC x (defScope st) s.heap.objs.size f cdv)).guards = some [] := gd
  obtain ⟨t, pss, read⟩ := hbody cdv A outer s H vs Q (room.deeper _) gd' promise
  have inv := inv_start (CX := CX0) (E := E0) (N := N) (qual := x) (f := f) (cd := cdv) S room.hd env many rel x'
  refine wpAny_mono (pss.nox.run [] s' (start N vs) H _ inv read) (fun fl s2 end_ => ?_) fun e s2 bad => bad
  have done : ∀ (σ2 : ASt) (H2 : AHp) (v : V) (u : Value), Inv (cxOf CX0 P w K mg base N x (defScope st) f cdv A outer s H E0) [] σ2 H2 s2 → RelV v u → Q v H2 → CE outer P w H s Q u s2 :=
    fun σ2 H2 v u I r q => ⟨v, H2, I.os, I.bare, I.base, I.hok, r, q⟩
  cases fl with
  | ret u => exact let ⟨v, σ2, H2, I, r, q⟩ := end_; done σ2 H2 v u I r q
  | next => exact let ⟨σ2, H2, I, q⟩ := end_; done σ2 H2 .non .none I rfl q
  | brk => exact False.elim (let ⟨_, _, _, q⟩ := end_; q)
  | cont => exact False.elim (let ⟨_, _, _, q⟩ := end_; q)

theorem rl_start {K : PySem.W.Frag} {μ : List Addr} {st : Sto} {H : AHp} {N : List Str} {ds : List D} {vs : List V} {np : Nat} (S : StoOk K μ st H) (r : RepL K μ H ds vs) (hl : ds.length = np) (hn : np ≤ N.length) :
    Rl K μ (ds.map some ++ List.replicate (N.length - np) none) st (start N vs) H := by
  have lv := r.length
  refine ⟨S, by unfold L2.start; simp; omega, fun i d h => ?_⟩
  by_cases hi : i < ds.length
  · rw [List.getElem?_append_left (by simpa using hi), List.getElem?_map] at h
    cases e : ds[i]? with
    | none => rw [e] at h; cases h
    | some d' =>
      rw [e] at h
      cases h
      obtain ⟨v, h1, h2⟩ := r.get e
      refine ⟨v, ?_, h2⟩
      unfold L2.start
      rw [List.getElem?_append_left (by simp; omega), List.getElem?_map, h1]
      rfl
  · rw [List.getElem?_append_right (by simpa using hi), List.getElem?_replicate] at h
    split at h <;> cases h
theorem shape_ok {K : PySem.W.Frag} {x : Str} {st : Stmt} {f : Addr} {fd : FuncData} {ps ks : List Str} {n : Nat} {sh : Shape} (F : Fun K x x st f fd) (ha : plainArgs (defArgs st) ps = true) (nd : ps.Nodup) (h : shapeOf ps n ks = some sh) : ShapeOk K fd ps sh ∧ sh.perm.length = ps.length := by
  unfold shapeOf at h
  split at h
  · rename_i hc
    cases h
    obtain ⟨h1, h2, h3⟩ := hc
    obtain ⟨as, e1, e2⟩ := plain_args ha
    obtain ⟨oc, od, kV, doc, pm, an, cdv, ct, osl, efd, _, _⟩ := F.ex
    subst efd
    refine ⟨fun s us ws bs _ l1 l2 hb => ?_, by simp; omega⟩
    have l1 : us.length = n := l1
    subst l1
    exact .of_eq (bind_ok (as := as) e1 e2 rfl h1 l2 nd h2 h3 hb)
  · cases h
section
variable {P : Program} {w : World} {K : PySem.W.Frag} {mg : Str → Option Value} {base : Heap} {ds : List DefE} {con : Str → Option D} {blt : List Str}
theorem table (M : ModOk K mg ds con blt) (chk : ∀ d ∈ ds, chkDef ds con blt d = true) : ∀ (k i : Nat) (d : DefE), ds[i]? = some d → ∀ (f : Addr) (fd : FuncData), Fun K d.x d.x d.st f fd → mg d.x = some (.ref f) →
    FnG P w K mg base k f fd d.ps (SpF K (evF (tabOf ds) k i) d.ps.length)
  | 0, i, d, hd, f, fd, F, hm => ⟨fun vs H Q ⟨μ, st, es, e, st', S, r, hl, h, q⟩ => by simp [evF] at h, fun A outer s H args us vs Q _ _ _ _ _ ⟨μ, st, es, e, st', S, r, hl, h, q⟩ => by simp [evF] at h⟩
  | k + 1, i, d, hd, f, fd, F, hm => by
    have hmem := List.mem_of_getElem? hd
    obtain ⟨sc, pa, body⟩ := chk_scope (chk d hmem)
    refine fnG_of F sc (fun vs H Q ⟨μ, st, es, e, st', S, r, hl, h, q⟩ => by rw [← r.length]; exact hl) fun cdv A outer s H vs Q room gd ⟨μ, st, es, e, st', S, r, hl, h, q⟩ => ?_
    have O : XOk (evF (tabOf ds) k) k (ccOf ds con blt d) (cxOf CX0 P w K mg base d.N d.x (defScope d.st) f cdv A outer s H E0).nox := by
      refine ⟨rfl, sc.nd, rfl, rfl, room, gd, rfl, M.con, fun x fid ps n ks sh h1 h2 => ?_, fun x h => M.blt x (of_decide_eq_true h), fun x h => ?_⟩
      · obtain ⟨d', _, e1, e2, e3⟩ := fns_at h1
        have e1 : ds[fid]? = some d' := by simpa using e1
        have hmem' := List.mem_of_getElem? e1
        obtain ⟨f', fd', F', hm'⟩ := M.defs d' hmem'
        obtain ⟨sc', pa', _⟩ := chk_scope (chk d' hmem')
        subst e2 e3
        have ndp : d'.ps.Nodup := by rw [← sc'.pre]; exact sc'.nd.sublist (List.take_sublist _ _)
        obtain ⟨so, sl⟩ := shape_ok F' pa' ndp h2
        exact ⟨f', fd', d'.ps, hm', F'.kp, table M chk k fid d' e1 f' fd' F' hm', so, sl⟩
      · have h : locB (defScope d.st) x = true := h
        unfold locB at h
        split at h
        · exact ⟨.inl (by assumption), .inl rfl⟩
        · exact ⟨.inr (by assumption), .inl rfl⟩
        · cases h
    have hb := body_ok O 60 (defBody d.st)
    rw [body] at hb
    refine ⟨_, hb, ?_⟩
    have hnp : d.ps.length ≤ d.N.length := by
      have := congrArg List.length sc.pre
      rw [List.length_take] at this
      omega
    have tb : tabOf ds i = some ⟨d.ps.length, d.N.length, d.body⟩ := by unfold tabOf; rw [hd]
    simp only [evF, tb, hl, if_true] at h
    have R := rl_start (N := d.N) S r hl hnp
    split at h
    · rename_i d' ρ1 s1 h1
      cases h
      exact ⟨μ, _, st, .rt e, ρ1, st', R, h1, fun μ' H' v F' S' r' => q μ' H' v F' S' r'⟩
    · rename_i ρ1 s1 h1
      cases h
      exact ⟨μ, _, st, .nx, ρ1, st', R, h1, fun μ' σ' H' F' R' => q μ' H' .non F' R'.sto .non⟩
    · cases h
end
end Nx

end

section
set_option maxHeartbeats 1000000
/-! Nx22: the law's own call, from what the small language computes of the script. -/
namespace Nx
open PySem PySem.Spec PyProof.Rows L2

def scriptD (ns : List Int) : D := .lis (ns.map .int)
theorem rep_ints {K : PySem.W.Frag} {μ : List Addr} {H : AHp} : ∀ (ns : List Int), RepL K μ H (ns.map .int) (ns.map V.int)
  | [] => .nil
  | n :: ns => .cons (.int n) (rep_ints ns)
/-- the promise of the law's def, at an abstract heap in which only the script is told -/
theorem law_at {P : Program} {w : World} {K : PySem.W.Frag} {mg mb : Str → Option Value} {k : Nat} {fa a : Addr} {fd : FuncData} {x : Str} {F : List D → Sto → Option (D × Sto)} {s1 : Shared} {vs : List Value} {ns : List Int} {H : AHp}
    (known : K.In s1.heap) (top : s1.heap.Ns mainGlobals mg) (bns : s1.heap.Ns builtinsNs mb) (bmap : ∀ x : Str, x ≠ "__name__" → mb x = bootBuiltins x) (nolim : s1.heap.NoLimit) (still : s1.gens = #[])
    (obj : s1.heap.get? a = some { cls := .type "list", data := .seq vs.toArray }) (room : Room k callerA)
    (G : ∀ base : Heap, K.In base → base.Ns mainGlobals mg → FnG P w K mg base k fa fd [x] (SpF K F 1)) (bind : ∀ (s : Shared) (u : Value), BindsTo s fd ⟨[u], []⟩ [(x, u)])
    (says : ∃ st', F [scriptD ns] [] = some (.bl true, st'))
    (only : Only H) (fro : FroAt K H a (ns.map V.int)) (hok : HOk P w H s1.heap) (just : ∀ b, H b ≠ none → b = a) (own : H a ≠ none → K.lookup a = none) :
    codeAny (model P w) callerA (.call (.ref fa) ⟨[.ref a], []⟩) (fun r s' => r = .ok (.ret (.bool true)) ∧ OldK s1.heap s'.heap ∧ s'.os = s1.os ∧ AllBare s'.gens) s1 := by
  obtain ⟨st', says⟩ := says
  have at_a : ∀ b u, H b = some u → b = a := fun b u e => just b (by rw [e]; exact Option.some_ne_none u)
  have dict_out : ∀ (b : Addr) (o : Obj) (es : Array DictEntry) (ep : Nat), s1.heap.get? b = some o → o.data = .dict es ep → H b = none := by
    intro b o es ep e d
    cases q : H b with
    | none => rfl
    | some u =>
      have z := at_a b u q
      subst z
      rw [obj] at e
      cases e
      cases (show Data.seq vs.toArray _ = Data.dict es ep from d)
  have nsOut : ∀ (b : Addr) (m : Str → Option Value), s1.heap.Ns b m → (hidT s1.heap H).Ns b m := fun b m ⟨o, es, ep, e, d, r⟩ => ⟨o, es, ep, hidT_get e (dict_out b o es ep e d), d, r⟩
  have knownB : K.In (hidT s1.heap H) := by
    intro b o e
    refine hidT_get (known b o e) ?_
    cases q : H b with
    | none => rfl
    | some u =>
      have z := at_a b u q
      subst z
      rw [own (by rw [q]; exact Option.some_ne_none u)] at e
      cases e
  have md : Mod K mg (hidT s1.heap H) := ⟨knownB, nsOut _ _ top, ⟨mb, nsOut _ _ bns, bmap⟩, let ⟨mc, h1, h2⟩ := nolim; ⟨mc, nsOut _ _ h1, h2⟩⟩
  have env : Env0 P w K mg (hidT s1.heap H) callerA [] s1 H :=
    { frames := rfl, mod := md, bs := fun b o e => of_hidT e, bsz := Nat.le_of_eq (hidT_size _ _), funs := trivial, frf := (fun b hb => by cases hb), hok := hok, bare := .of_eq still }
  have promise : SpF K F 1 [.ref a] H (fun v _ => v = .bl true) :=
    ⟨[], [], [scriptD ns], .bl true, st', ⟨rfl, List.nodup_nil, fun l b o h1 _ => by simp at h1⟩, .cons (.lis fro (rep_ints ns)) .nil, rfl, says, fun μ' H' v _ _ r => by cases r; rfl⟩
  refine codeAny_mono ((G _ knownB (nsOut _ _ top)).run callerA [] s1 H ⟨[.ref a], []⟩ [.ref a] [.ref a] _ room rfl env (bind s1 (.ref a)) (.cons rfl .nil) promise) fun r s2 h => ?_
  cases r with
  | error e => exact False.elim h
  | ok fl =>
    cases fl with
    | next => exact False.elim h
    | brk => exact False.elim h
    | cont => exact False.elim h
    | ret u =>
      obtain ⟨v, H2, os, bare, un, hok2, rel, q⟩ := h
      have q : v = .bl true := q
      subst q
      obtain rfl : u = Value.bool true := rel
      refine ⟨rfl, OldK.of_keep fun b o e => ?_, os, bare⟩
      rcases only b with z | ⟨ob, xs, z⟩
      · exact un.keep b o e z (by intro q; cases q) (by intro q; cases q)
      · obtain ⟨e1, _⟩ := hok b _ z
        obtain ⟨e2, _⟩ := hok2 b _ (un.frzs b ob _ z)
        rw [e] at e1
        cases e1
        exact e2
theorem law_G {P : Program} {w : World} {K : PySem.W.Frag} {mg mb : Str → Option Value} {k : Nat} {fa a : Addr} {fd : FuncData} {x : Str} {F : List D → Sto → Option (D × Sto)} {s1 : Shared} {vs : List Value} {ns : List Int}
    (known : K.In s1.heap) (top : s1.heap.Ns mainGlobals mg) (bns : s1.heap.Ns builtinsNs mb) (bmap : ∀ x : Str, x ≠ "__name__" → mb x = bootBuiltins x) (nolim : s1.heap.NoLimit) (still : s1.gens = #[])
    (obj : s1.heap.get? a = some { cls := .type "list", data := .seq vs.toArray }) (are : IntsAre vs ns) (few : ns.length ≤ sizeLine) (room : Room k callerA)
    (G : ∀ base : Heap, K.In base → base.Ns mainGlobals mg → FnG P w K mg base k fa fd [x] (SpF K F 1)) (bind : ∀ (s : Shared) (u : Value), BindsTo s fd ⟨[u], []⟩ [(x, u)])
    (says : ∃ st', F [scriptD ns] [] = some (.bl true, st')) :
    codeAny (model P w) callerA (.call (.ref fa) ⟨[.ref a], []⟩) (fun r s' => r = .ok (.ret (.bool true)) ∧ OldK s1.heap s'.heap ∧ s'.os = s1.os ∧ AllBare s'.gens) s1 := by
  have rv := vals_ints are
  have lv := are.length
  have fewV : (ns.map V.int).length ≤ sizeLine := by rw [List.length_map]; exact few
  cases hk : K.lookup a with
  | some o =>
    have e := known a o hk
    rw [obj] at e
    cases e
    refine law_at known top bns bmap nolim still obj room G bind says (H := fun _ => none) (fun _ => Or.inl rfl) ⟨fewV, Or.inr ⟨_, vs.toArray, _, hk, rfl, rfl, rfl, ?_, by simpa using rv⟩⟩ (fun b u z => nomatch z) (fun b z => absurd rfl z) fun z => absurd rfl z
    rw [List.size_toArray, lv]
    exact few
  | none =>
    let H : AHp := fun b => if b = a then some (.frz { cls := .type "list", data := .seq vs.toArray } (.lst (ns.map V.int))) else none
    have hA : H a = some (.frz { cls := .type "list", data := .seq vs.toArray } (.lst (ns.map V.int))) := if_pos rfl
    have hB : ∀ b, b ≠ a → H b = none := fun b hb => if_neg hb
    refine law_at known top bns bmap nolim still obj room G bind says (H := H) (fun b => ?_) ⟨fewV, Or.inl ⟨_, hA⟩⟩ (fun b u z => ?_) (fun b z => ?_) fun _ => hk
    · by_cases hb : b = a
      · subst hb; exact Or.inr ⟨_, _, hA⟩
      · exact Or.inl (hB b hb)
    · by_cases hb : b = a
      · subst hb
        rw [hA] at z
        cases z
        exact ⟨obj, fewV, vs, _, rv, obj⟩
      · rw [hB b hb] at z
        cases z
    · by_cases hb : b = a
      · exact hb
      · exact absurd (hB b hb) z
/-- the goal behind the head -/
theorem walk_G {l : PySem.W.OpenLaw} {n k : Nat} {q : Program} {loose : List Str} {XP : (Str → Option Value) → Heap → Prop} {YP : World → Heap → Prop} {d : DefRec} {K : Params → PySem.W.Frag} {x : Str} {F : List D → Sto → Option (D × Sto)}
    (hn : l.most = some n) (hn2 : n ≤ sizeLine) (hdf : d.params.defaults = []) (hr : Room k callerA) (hY : ∀ (w : World) (h : Heap), YP w h → (K w.params).In h)
    (G : ∀ (w : World) (mg : Str → Option Value) (fa : Addr) (h : Heap), (K w.params).In h → h.Ns mainGlobals mg → mg d.name = some (.ref fa) →
      ∃ fd : FuncData, (∀ (s : Shared) (u : Value), BindsTo s fd ⟨[u], []⟩ [(x, u)]) ∧
        ∀ base : Heap, (K w.params).In base → base.Ns mainGlobals mg → FnG l.prog w (K w.params) mg base k fa fd [x] (SpF (K w.params) F 1))
    (says : ∀ ns : List Int, ns.length ≤ n → (∀ z ∈ ns, Builtin.Int.intBits z ≤ 1048576) → ∃ st', F [scriptD ns] [] = some (.bl true, st')) :
    PySem.W.WalkO q loose XP YP l.row.toRowW d [] (fun f vs => PySem.call f vs) := by
  refine Att.attach_callB hn hdf fun w s0 s1 mg mb fa o pm cd doc a vs ns Gr Y ho hd hcd hmg hobj hints hlen hbits hg => ?_
  have known := hY w _ Y
  obtain ⟨fd, hb, hF⟩ := G w mg fa _ known Gr.T.g hmg
  exact law_G known Gr.T.g Gr.T.b Gr.T.builtins Gr.T.nolimit hg hobj hints (Nat.le_trans hlen hn2) hr hF hb (says ns hlen hbits)
end Nx

end

section
set_option maxHeartbeats 1000000
/-! Nx23: from the facts of the top to the promise of the law's def. -/
namespace Nx
open PySem PySem.Spec PyProof.Rows L2
section
variable {K : PySem.W.Frag} {mg : Str → Option Value} {h : Heap}
def HasDef (K : PySem.W.Frag) (mg : Str → Option Value) (x : Str) (st : Stmt) : Prop := ∃ f fd, Fun K x x st f fd ∧ mg x = some (.ref f)
def HasCon (K : PySem.W.Frag) (mg : Str → Option Value) (x : Str) (d : D) : Prop := ∃ v u, mg x = some u ∧ RelV v u ∧ ∀ μ H, Rep K μ H d v
theorem def_mk (X : K.In h) (G : h.Ns mainGlobals mg) {x : Str} {st : Stmt} {f : Addr} {oc : Value} {od an : Option Addr} {osl : Array (Option Value)} {kV doc pm cdv ct : Value} (a : PySem.W.nsIn K mainGlobals x = some (some (.ref f)))
    (l : K.lookup f = some ⟨oc, od, .func (PySem.W.fnOf x x (defArgs st) (defBody st) (defScope st) .none kV doc pm an cdv ct), osl⟩) (c : PySem.W.codeIn K cdv x = true) (k : PySem.W.keepIn K (.ref f) = true) : HasDef K mg x st :=
  ⟨f, _, fun_mk l c k, PySem.W.mg_of X G a⟩
theorem con_int (X : K.In h) (G : h.Ns mainGlobals mg) {x : Str} {i : Int} {t : Tok} (a : PySem.W.nsIn K mainGlobals x = some (some (.int i t))) : HasCon K mg x (.int i) :=
  ⟨.int i, _, PySem.W.mg_of X G a, ⟨t, rfl⟩, fun _ _ => .int i⟩
theorem con_str (X : K.In h) (G : h.Ns mainGlobals mg) {x s : Str} {t : Tok} (a : PySem.W.nsIn K mainGlobals x = some (some (.str s t))) (hs : s.length ≤ sizeLine) : HasCon K mg x (.str s) :=
  ⟨.str s, _, PySem.W.mg_of X G a, ⟨t, rfl⟩, fun _ _ => .str s hs⟩
theorem con_bl (X : K.In h) (G : h.Ns mainGlobals mg) {x : Str} {b : Bool} (a : PySem.W.nsIn K mainGlobals x = some (some (.bool b))) : HasCon K mg x (.bl b) :=
  ⟨.bl b, _, PySem.W.mg_of X G a, rfl, fun _ _ => .bl b⟩
theorem no_blt (X : K.In h) (G : h.Ns mainGlobals mg) {x : Str} (a : PySem.W.nsIn K mainGlobals x = some none) : mg x = none := PySem.W.mg_none_of X G a
end
theorem all_nil {α : Type} {p : α → Prop} : ∀ x ∈ ([] : List α), p x := fun x h => by cases h
theorem all_cons {α : Type} {p : α → Prop} {a : α} {l : List α} (h : p a) (t : ∀ x ∈ l, p x) : ∀ x ∈ a :: l, p x := fun x hx => by
  rcases List.mem_cons.mp hx with e | e
  · rw [e]; exact h
  · exact t x e
theorem mod_mk {K : PySem.W.Frag} {mg : Str → Option Value} {ds : List DefE} {cons : List (Str × D)} {blt : List Str} (h1 : ∀ d ∈ ds, HasDef K mg d.x d.st) (h2 : ∀ p ∈ cons, HasCon K mg p.1 p.2) (h3 : ∀ x ∈ blt, mg x = none) : ModOk K mg ds (fun x => cons.lookup x) blt where
  defs := h1
  con := fun x d e => h2 (x, d) (PySem.mem_of_lookup e)
  blt := h3
theorem final {P : Program} {w : World} {K : PySem.W.Frag} {mg : Str → Option Value} {fa : Addr} {ds : List DefE} {con : Str → Option D} {blt : List Str} {lawN : Str} (hmg : mg lawN = some (.ref fa)) (M : ModOk K mg ds con blt) (chk : ∀ d ∈ ds, chkDef ds con blt d = true)
    {i : Nat} {d : DefE} {s : Str} (hd : ds[i]? = some d) (hx : d.x = lawN) (hps : d.ps = [s]) (k : Nat) :
    ∃ fd : FuncData, (∀ (sh : Shared) (u : Value), BindsTo sh fd ⟨[u], []⟩ [(s, u)]) ∧ ∀ base : Heap, K.In base → base.Ns mainGlobals mg → FnG P w K mg base k fa fd [s] (SpF K (evF (tabOf ds) k i) 1) := by
  have hmem := List.mem_of_getElem? hd
  obtain ⟨f, fd, F, hm⟩ := M.defs d hmem
  rw [hx, hmg] at hm
  cases hm
  obtain ⟨sc, pa, _⟩ := chk_scope (chk d hmem)
  refine ⟨fd, fun sh u => ?_, fun base _ _ => ?_⟩
  · obtain ⟨as, e1, e2⟩ := plain_args pa
    obtain ⟨oc, od, kV, doc, pm, an, cdv, ct, osl, efd, _, _⟩ := F.ex
    subst efd
    have q := bind_ok (fd := PySem.W.fnOf d.x d.x (defArgs d.st) (defBody d.st) (defScope d.st) .none kV doc pm an cdv ct) (ps := d.ps) (ks := []) (as := as) (us := [u]) (ws := []) (bs := [u]) e1 e2 rfl (by rw [hps]; rfl) rfl
      (by rw [hps]; simp) List.nodup_nil (by rw [hps]; intro x hx; simp at hx) (by rw [hps]; rfl)
    rw [hps] at q
    exact .of_eq q
  · have q := table (P := P) (w := w) (base := base) M chk k i d hd fa fd F (by rw [hx]; exact hmg)
    rw [hps] at q
    exact q
end Nx

end

section
set_option maxHeartbeats 1000000
/-! Nx24: computing in the small language. -/
namespace Nx
open PySem L2
def retOf : V2 → Option (D × Sto)
  | some (.rt d, _, s1) => some (d, s1)
  | some (.nx, _, s1) => some (.non, s1)
  | _ => none
theorem run_fn {tab : Nat → Option Fn} {k f : Nat} {ds : List D} {st : Sto} {fn : Fn} (h : tab f = some fn) (hl : ds.length = fn.np) :
    evF tab (k + 1) f ds st = retOf (exB (evF tab k) fn.body (ds.map some ++ List.replicate (fn.ns - fn.np) none) st) := by
  rw [evF, h]
  simp only [hl, if_true]
  rfl
end Nx

end

section
set_option maxHeartbeats 1000000
/-! Nx25: the operations at known values, as rows for simp. -/
namespace Nx
open PySem L2
section
variable (st : Sto)
theorem o_eqI (i j : Int) : op2 .eq (.val (.int i)) (.val (.int j)) st = some (.val (.bl (decide (i = j))), st) := by
  have e : (i == j) = decide (i = j) := by rw [Bool.eq_iff_iff]; simp
  simp [op2, eqD, toPyW, toPy, PyData.eqv, vB, vD]
  rw [e]
theorem o_neI (i j : Int) : op2 .ne (.val (.int i)) (.val (.int j)) st = some (.val (.bl (!decide (i = j))), st) := by
  have e : (i == j) = decide (i = j) := by rw [Bool.eq_iff_iff]; simp
  simp [op2, eqD, toPyW, toPy, PyData.eqv, vB, vD]
  rw [e]
theorem o_eqS (s t : Str) : op2 .eq (.val (.str s)) (.val (.str t)) st = some (.val (.bl (decide (s = t))), st) := rfl
theorem o_neS (s t : Str) : op2 .ne (.val (.str s)) (.val (.str t)) st = some (.val (.bl (!decide (s = t))), st) := rfl
theorem o_in2 (s a b : Str) : op2 .inn (.val (.str s)) (.val (.tup [.str a, .str b])) st = some (.val (.bl (a == s || b == s)), st) := by
  simp [op2, flatD, eqF, vB, vD]
theorem o_nin2 (s a b : Str) : op2 .nin (.val (.str s)) (.val (.tup [.str a, .str b])) st = some (.val (.bl (!(a == s || b == s))), st) := by
  simp [op2, flatD, eqF, vB, vD]
end
theorem opsI : (∀ st i j, op2 .add (.val (.int i)) (.val (.int j)) st = some (.val (.int (i + j)), st)) ∧ (∀ st i j, op2 .sub (.val (.int i)) (.val (.int j)) st = some (.val (.int (i - j)), st)) ∧
    (∀ st i j, op2 .lt (.val (.int i)) (.val (.int j)) st = some (.val (.bl (decide (i < j))), st)) ∧ (∀ st i j, op2 .le (.val (.int i)) (.val (.int j)) st = some (.val (.bl (decide (i ≤ j))), st)) ∧
    (∀ st i j, op2 .gt (.val (.int i)) (.val (.int j)) st = some (.val (.bl (decide (j < i))), st)) ∧ (∀ st i j, op2 .ge (.val (.int i)) (.val (.int j)) st = some (.val (.bl (decide (j ≤ i))), st)) ∧
    (∀ st i j, op2 .max2 (.val (.int i)) (.val (.int j)) st = some (.val (.int (if j > i then j else i)), st)) ∧ (∀ st i j, op2 .min2 (.val (.int i)) (.val (.int j)) st = some (.val (.int (if j < i then j else i)), st)) ∧
    (∀ st i, op1 .neg (.val (.int i)) st = some (.val (.int (-i)), st)) ∧ (∀ st i, op1 .int (.val (.int i)) st = some (.val (.int i), st)) ∧ (∀ st i, op1 .abs (.val (.int i)) st = some (.val (.int (if i < 0 then -i else i)), st)) ∧
    (∀ st ds, op1 .len (.val (.tup ds)) st = some (.val (.int ds.length), st)) ∧ (∀ st s, op1 .len (.val (.str s)) st = some (.val (.int s.length), st)) ∧ (∀ st ds, op1 .len (.new ds) st = some (.val (.int ds.length), st)) ∧ (∀ st ds, op1 .len (.val (.lis ds)) st = some (.val (.int ds.length), st)) ∧
    (∀ st b, op1 .not (.val (.bl b)) st = some (.val (.bl (!b)), st)) ∧ (∀ st ds, op1 .tuple (.new ds) st = some (.val (.tup ds), st)) ∧ (∀ st ds, op1 .list (.val (.tup ds)) st = some (.new ds, st)) ∧ (∀ st ds, op1 .rev (.val (.tup ds)) st = some (.val (.tup ds.reverse), st)) :=
  ⟨fun _ _ _ => rfl, fun _ _ _ => rfl, fun _ _ _ => rfl, fun _ _ _ => rfl, fun _ _ _ => rfl, fun _ _ _ => rfl, fun _ _ _ => rfl, fun _ _ _ => rfl, fun _ _ => rfl, fun _ _ => rfl, fun _ _ => rfl, fun _ _ => rfl, fun _ _ => rfl, fun _ _ => rfl, fun _ _ => rfl, fun _ _ => rfl, fun _ _ => rfl, fun _ _ => rfl, fun _ _ => rfl⟩
theorem opsN : (∀ st, op2 .is (.val .non) (.val .non) st = some (.val (.bl true), st)) ∧ (∀ st, op2 .isn (.val .non) (.val .non) st = some (.val (.bl false), st)) ∧
    (∀ st ds, op2 .is (.val (.tup ds)) (.val .non) st = some (.val (.bl false), st)) ∧ (∀ st ds, op2 .isn (.val (.tup ds)) (.val .non) st = some (.val (.bl true), st)) ∧
    (∀ st i, op2 .is (.val (.int i)) (.val .non) st = some (.val (.bl false), st)) ∧ (∀ st i, op2 .isn (.val (.int i)) (.val .non) st = some (.val (.bl true), st)) ∧
    (∀ st s, op2 .is (.val (.str s)) (.val .non) st = some (.val (.bl false), st)) ∧ (∀ st s, op2 .isn (.val (.str s)) (.val .non) st = some (.val (.bl true), st)) ∧
    (∀ st l, op2 .is (.val (.ref l)) (.val .non) st = some (.val (.bl false), st)) ∧ (∀ st l, op2 .isn (.val (.ref l)) (.val .non) st = some (.val (.bl true), st)) :=
  ⟨fun _ => rfl, fun _ => rfl, fun _ _ => rfl, fun _ _ => rfl, fun _ _ => rfl, fun _ _ => rfl, fun _ _ => rfl, fun _ _ => rfl, fun _ _ => rfl, fun _ _ => rfl⟩
theorem at0 {α : Type} (a : α) (r : List α) : atI (a :: r) 0 = some a := by
  unfold atI ixN
  have h : (0 : Int) < ((a :: r).length : Int) := by rw [List.length_cons]; omega
  rw [if_pos (Int.le_refl 0), if_pos h]
  rfl
theorem at1 {α : Type} (a b : α) (r : List α) : atI (a :: b :: r) 1 = some b := by
  unfold atI ixN
  have h : (1 : Int) < ((a :: b :: r).length : Int) := by rw [List.length_cons, List.length_cons]; omega
  rw [if_pos (by decide), if_pos h]
  rfl
theorem at2 {α : Type} (a b c : α) (r : List α) : atI (a :: b :: c :: r) 2 = some c := by
  unfold atI ixN
  have h : (2 : Int) < ((a :: b :: c :: r).length : Int) := by rw [List.length_cons, List.length_cons, List.length_cons]; omega
  rw [if_pos (by decide), if_pos h]
  rfl
theorem at_nat {α : Type} {l : List α} {i : Nat} {a : α} (h : l[i]? = some a) : atI l (i : Int) = some a := by
  unfold atI ixN
  have hl := (List.getElem?_eq_some_iff.mp h).1
  have h2 : (i : Int) < (l.length : Int) := by omega
  simp [h2, h]
theorem at_int {α : Type} {l : List α} {i : Int} {a : α} (h0 : 0 ≤ i) (h : l[i.toNat]? = some a) : atI l i = some a := by
  have := at_nat h
  rwa [Int.toNat_of_nonneg h0] at this
theorem opsX : (∀ st a r, op2 .idx (.val (.tup (a :: r))) (.val (.int 0)) st = some (.val a, st)) ∧ (∀ st a b r, op2 .idx (.val (.tup (a :: b :: r))) (.val (.int 1)) st = some (.val b, st)) ∧
    (∀ st a b c r, op2 .idx (.val (.tup (a :: b :: c :: r))) (.val (.int 2)) st = some (.val c, st)) := by
  refine ⟨fun st a r => ?_, fun st a b r => ?_, fun st a b c r => ?_⟩
  · simp [op2, at0, vD]
  · simp [op2, at1, vD]
  · simp [op2, at2, vD]
theorem o_idx {st : Sto} {ds : List D} {i : Int} {d : D} (h : atI ds i = some d) : op2 .idx (.val (.tup ds)) (.val (.int i)) st = some (.val d, st) := by
  simp [op2, h, vD]
theorem o_idxL {st : Sto} {l : Nat} {ds : List D} {i : Int} {d : D} (hl : st[l]? = some (.lst ds)) (h : atI ds i = some d) : op2 .idx (.val (.ref l)) (.val (.int i)) st = some (.val d, st) := by
  simp [op2, hl, h, vD]
/-- steps of the language that hold at once -/
theorem evs : (∀ T d ρ st, evW T (.k d) ρ st = some (.val d, st)) ∧ (∀ d st, settle (.val d) st = (d, st)) ∧ (∀ ds st, settle (.new ds) st = (.ref st.length, st ++ [.lst ds])) ∧
    (∀ st b, truth st (.val (.bl b)) = some b) ∧ (∀ T ρ st, evA T [] ρ st = some ([], st)) ∧ (∀ T ρ st, exB T [] ρ st = some (.nx, ρ, st)) :=
  ⟨fun _ _ _ _ => by simp [evW, vD], fun _ _ => rfl, fun _ _ => rfl, fun _ _ => rfl, fun _ _ _ => by simp [evA], fun _ _ _ => by simp [exB]⟩
end Nx

end

section
set_option maxHeartbeats 1000000
/-! Px1: the bodies of the defs that several laws share (printed by wip/gen/lib.py). -/
namespace Px
open Nx
def B_is_integer : List S := [.ret (.and (.p1 (.isT "int") (.v 0)) (.p1 .not (.p1 (.isT "bool") (.v 0))))]
def B_is_within (i_is_integer : Nat) : List S := [.ret (.and (.call i_is_integer [(.v 0)] [0]) (.chain .le .le (.v 1) (.v 0) (.v 2)))]
def B_is_tuple : List S := [.ret (.and (.p1 (.isT "tuple") (.v 0)) (.p2 .eq (.p1 .len (.v 0)) (.v 1)))]
def B_is_small : List S := [.ret (.and (.p1 (.isT "str") (.v 0)) (.and (.chain .le .le (.v 1) (.p1 .len (.v 0)) (.v 2)) (.p1 .all (.comp 0 [(.v 0)] (.n 3) (.k (.bl true)) (.p2 .inn (.v 3) (.k (.str "abcdefghijklmnopqrstuvwxyz")))))))]
def B_is_letter_value (i_is_small : Nat) : List S := [.ret (.call i_is_small [(.v 0), (.k (.int 1)), (.k (.int 1))] [0, 1, 2])]
def B_are_parts : List S := [.ret (.and (.p1 (.isT "tuple") (.v 0)) (.chain .le .le (.v 1) (.p1 .len (.v 0)) (.k (.int 100))))]
def B_measures (i_is_letter_value i_is_tuple i_measures i_are_parts : Nat) : List S := [.ite (.call i_is_letter_value [(.v 0)] [0]) [.ret (.tup [(.k (.int 1)), (.k (.int 1)), (.dict [(.v 0), (.k (.bl true))])])] [], .ite (.or (.p2 .lt (.v 1) (.k (.int 2))) (.or (.p1 .not (.call i_is_tuple [(.v 0), (.k (.int 2))] [0, 1])) (.p1 .not (.p1 (.isT "str") (.p2 .idx (.v 0) (.k (.int 0))))))) [.ret (.k .non)] [], .asgT [3, 4] (.v 0), .ite (.p2 .inn (.v 3) (.tup [(.k (.str "on")), (.k (.str "from"))])) [.asg 5 (.call i_measures [(.v 4), (.p2 .sub (.v 1) (.k (.int 1)))] [0, 1]), .ret (.ite (.p2 .isn (.v 5) (.k .non)) (.tup [(.p2 .add (.p2 .idx (.v 5) (.k (.int 0))) (.k (.int 1))), (.p2 .add (.p2 .idx (.v 5) (.k (.int 1))) (.k (.int 1))), (.p2 .idx (.v 5) (.k (.int 2)))]) (.k .non))] [], .ite (.or (.p2 .nin (.v 3) (.tup [(.k (.str "row")), (.k (.str "mix"))])) (.p1 .not (.call i_are_parts [(.v 4), (.ite (.p2 .eq (.v 3) (.k (.str "row"))) (.k (.int 2)) (.k (.int 1)))] [0, 1]))) [.ret (.k .non)] [], .ite (.and (.p2 .eq (.v 3) (.k (.str "row"))) (.p1 .any (.comp 0 [(.v 4)] (.n 2) (.k (.bl true)) (.and (.call i_is_tuple [(.v 2), (.k (.int 2))] [0, 1]) (.and (.p1 (.isT "str") (.p2 .idx (.v 2) (.k (.int 0)))) (.p2 .eq (.p2 .idx (.v 2) (.k (.int 0))) (.k (.str "row")))))))) [.ret (.k .non)] [], .asgP [6, 7, 8] [(.ite (.p2 .eq (.v 3) (.k (.str "row"))) (.k (.int 0)) (.k (.int 1))), (.k (.int 0)), (.dict [])], .for_ 0 [(.v 4)] (.n 2) [.asg 5 (.call i_measures [(.v 2), (.p2 .sub (.v 1) (.k (.int 1)))] [0, 1]), .ite (.p2 .is (.v 5) (.k .non)) [.ret (.k .non)] [], .asgP [6, 7] [(.p2 .add (.v 6) (.p2 .idx (.v 5) (.k (.int 0)))), (.p2 .max2 (.v 7) (.p2 .idx (.v 5) (.k (.int 1))))], .ex (.m1 .d .update (.v 8) (.p2 .idx (.v 5) (.k (.int 2)))), .ite (.p2 .gt (.v 6) (.k (.int 100))) [.ret (.k .non)] []], .ret (.tup [(.v 6), (.p2 .add (.v 7) (.k (.int 1))), (.v 8)])]
def B_is_timeline_value (i_measures : Nat) : List S := [.asg 1 (.call i_measures [(.v 0), (.k (.int 16))] [0, 1]), .ret (.and (.p2 .isn (.v 1) (.k .non)) (.and (.p2 .le (.p2 .idx (.v 1) (.k (.int 0))) (.k (.int 100))) (.p2 .le (.p1 .len (.p2 .idx (.v 1) (.k (.int 2)))) (.k (.int 8)))))]
def B_want_timeline (i_is_timeline_value : Nat) : List S := [.ite (.p1 .not (.call i_is_timeline_value [(.v 0)] [0])) [.stuck] []]
def B_is_node (i_is_within : Nat) : List S := [.ret (.and (.p1 (.isT "tuple") (.v 0)) (.and (.p2 .le (.p1 .len (.v 0)) (.k (.int 100))) (.p1 .all (.comp 0 [(.v 0)] (.n 1) (.k (.bl true)) (.call i_is_within [(.v 1), (.k (.int 0)), (.k (.int 1))] [0, 1, 2])))))]
def B_is_step (i_is_within i_is_node : Nat) : List S := [.asgT [2, 3] (.v 0), .ite (.p2 .eq (.v 2) (.k (.str "row"))) [.ret (.call i_is_within [(.v 1), (.k (.int 0)), (.p2 .sub (.p1 .len (.v 3)) (.k (.int 1)))] [0, 1, 2])] [], .ret (.ite (.p2 .eq (.v 2) (.k (.str "mix"))) (.call i_is_node [(.v 1)] [0]) (.call i_is_within [(.v 1), (.k (.int 0)), (.p2 .sub (.k (.int 1000000000000000000000000000000)) (.k (.int 1)))] [0, 1, 2]))]
def B_inner : List S := [.asgT [2, 3] (.v 0), .ite (.p2 .inn (.v 2) (.tup [(.k (.str "on")), (.k (.str "from"))])) [.ret (.v 3)] [], .ret (.ite (.p2 .eq (.v 2) (.k (.str "row"))) (.p2 .idx (.v 3) (.v 1)) (.p2 .idx (.v 3) (.p2 .mod (.p1 .len (.v 1)) (.p1 .len (.v 3)))))]
def B_is_path_value (i_is_step i_inner : Nat) : List S := [.ite (.p1 .not (.p1 (.isT "tuple") (.v 1))) [.ret (.k (.bl false))] [], .for_ 0 [(.v 1)] (.n 2) [.ite (.or (.p1 (.isT "str") (.v 0)) (.p1 .not (.call i_is_step [(.v 0), (.v 2)] [0, 1]))) [.ret (.k (.bl false))] [], .asg 0 (.call i_inner [(.v 0), (.v 2)] [0, 1])], .ret (.k (.bl true))]
def B_is_address_value (i_is_tuple i_is_step i_is_address_value i_inner : Nat) : List S := [.ite (.p1 (.isT "str") (.v 0)) [.ret (.and (.p2 .eq (.v 1) (.tup [])) (.p1 (.isT "tuple") (.v 1)))] [], .ite (.or (.p1 .not (.call i_is_tuple [(.v 1), (.k (.int 2))] [0, 1])) (.p1 .not (.call i_is_step [(.v 0), (.p2 .idx (.v 1) (.k (.int 0)))] [0, 1]))) [.ret (.k (.bl false))] [], .ret (.call i_is_address_value [(.call i_inner [(.v 0), (.p2 .idx (.v 1) (.k (.int 0)))] [0, 1]), (.p2 .idx (.v 1) (.k (.int 1)))] [0, 1])]
def B_letter_by (i_inner : Nat) : List S := [.wh (.p1 .not (.p1 (.isT "str") (.v 0))) [.asgP [0, 1] [(.call i_inner [(.v 0), (.p2 .idx (.v 1) (.k (.int 0)))] [0, 1]), (.p2 .idx (.v 1) (.k (.int 1)))]], .ret (.v 0)]
def B_is_node_ahead : List S := [.for_ 1 [(.v 0), (.v 1)] (.t [2, 3]) [.ite (.p2 .ne (.v 2) (.v 3)) [.ret (.p2 .eq (.v 2) (.k (.int 0)))] []], .ret (.ite (.p2 .gt (.p1 .len (.v 0)) (.p1 .len (.v 1))) (.p2 .eq (.p2 .idx (.v 0) (.p1 .len (.v 1))) (.k (.int 0))) (.p2 .eq (.p2 .idx (.v 1) (.p1 .len (.v 0))) (.k (.int 1))))]
def B_is_ahead_by (i_is_ahead_by i_inner i_is_node_ahead : Nat) : List S := [.ite (.p1 (.isT "str") (.v 0)) [.ret (.k (.bl false))] [], .ite (.p2 .eq (.p2 .idx (.v 1) (.k (.int 0))) (.p2 .idx (.v 2) (.k (.int 0)))) [.ret (.call i_is_ahead_by [(.call i_inner [(.v 0), (.p2 .idx (.v 1) (.k (.int 0)))] [0, 1]), (.p2 .idx (.v 1) (.k (.int 1))), (.p2 .idx (.v 2) (.k (.int 1)))] [0, 1, 2])] [], .ite (.p2 .eq (.p2 .idx (.v 0) (.k (.int 0))) (.k (.str "mix"))) [.ret (.call i_is_node_ahead [(.p2 .idx (.v 1) (.k (.int 0))), (.p2 .idx (.v 2) (.k (.int 0)))] [0, 1])] [], .ret (.ite (.p2 .eq (.p2 .idx (.v 0) (.k (.int 0))) (.k (.str "from"))) (.p2 .gt (.p2 .idx (.v 1) (.k (.int 0))) (.p2 .idx (.v 2) (.k (.int 0)))) (.p2 .lt (.p2 .idx (.v 1) (.k (.int 0))) (.p2 .idx (.v 2) (.k (.int 0)))))]
def B_want_place (i_want_timeline i_is_address_value : Nat) : List S := [.ex (.call i_want_timeline [(.v 0)] [0]), .ite (.p1 .not (.call i_is_address_value [(.v 0), (.v 1)] [0, 1])) [.stuck] []]
def B_want_other (i_is_address_value : Nat) : List S := [.ite (.p1 .not (.call i_is_address_value [(.v 0), (.v 1)] [0, 1])) [.stuck] []]
def B_is_address (i_want_timeline i_is_address_value : Nat) : List S := [.ex (.call i_want_timeline [(.v 0)] [0]), .ret (.call i_is_address_value [(.v 0), (.v 1)] [0, 1])]
def B_is_path (i_want_timeline i_is_path_value : Nat) : List S := [.ex (.call i_want_timeline [(.v 0)] [0]), .ret (.call i_is_path_value [(.v 0), (.v 1)] [0, 1])]
def B_letter_at (i_want_place i_letter_by : Nat) : List S := [.ex (.call i_want_place [(.v 0), (.v 1)] [0, 1]), .ret (.call i_letter_by [(.v 0), (.v 1)] [0, 1])]
def B_is_ahead (i_want_place i_want_other i_is_ahead_by : Nat) : List S := [.ex (.call i_want_place [(.v 0), (.v 1)] [0, 1]), .ex (.call i_want_other [(.v 0), (.v 2)] [0, 1]), .ret (.call i_is_ahead_by [(.v 0), (.v 1), (.v 2)] [0, 1, 2])]
def B_law_pick (i_law_draw : Nat) : List S := [.ret (.p2 .idx (.v 1) (.call i_law_draw [(.v 0), (.p1 .len (.v 1))] [0, 1]))]
def B_law_time (i_law_pick i_law_time i_law_draw i_law_flat : Nat) : List S := [.asg 4 (.ite (.p2 .gt (.v 3) (.k (.int 1))) (.call i_law_pick [(.v 0), (.p2 .add (.lst [(.k (.str "letter")), (.k (.str "letter")), (.k (.str "row")), (.k (.str "row"))]) (.v 2))] [0, 1]) (.k (.str "letter"))), .ite (.p2 .eq (.v 4) (.k (.str "letter"))) [.ret (.call i_law_pick [(.v 0), (.v 1)] [0, 1])] [], .ite (.p2 .inn (.v 4) (.tup [(.k (.str "on")), (.k (.str "from"))])) [.ret (.tup [(.v 4), (.call i_law_time [(.v 0), (.v 1), (.v 2), (.p2 .sub (.v 3) (.k (.int 1)))] [0, 1, 2, 3])])] [], .asg 5 (.ite (.p2 .eq (.v 4) (.k (.str "row"))) (.p2 .add (.k (.int 2)) (.call i_law_draw [(.v 0), (.ite (.p2 .lt (.v 3) (.k (.int 5))) (.k (.int 2)) (.k (.int 1)))] [0, 1])) (.p2 .add (.k (.int 1)) (.call i_law_draw [(.v 0), (.ite (.p2 .lt (.v 3) (.k (.int 4))) (.k (.int 3)) (.k (.int 2)))] [0, 1]))), .asg 6 (.comp 3 [(.v 5)] (.n 7) (.k (.bl true)) (.call i_law_time [(.v 0), (.v 1), (.v 2), (.p2 .sub (.v 3) (.k (.int 1)))] [0, 1, 2, 3])), .ret (.ite (.p2 .eq (.v 4) (.k (.str "row"))) (.call i_law_flat [(.v 6)] [0]) (.tup [(.v 4), (.p1 .tuple (.v 6))]))]
def B_law_flat : List S := [.asg 1 (.lst []), .for_ 0 [(.v 0)] (.n 2) [.ex (.m1 .l .extend (.v 1) (.ite (.and (.p1 .not (.p1 (.isT "str") (.v 2))) (.p2 .eq (.p2 .idx (.v 2) (.k (.int 0))) (.k (.str "row")))) (.p1 .list (.p2 .idx (.v 2) (.k (.int 1)))) (.lst [(.v 2)])))], .ret (.ite (.p2 .gt (.p1 .len (.v 1)) (.k (.int 1))) (.tup [(.k (.str "row")), (.p1 .tuple (.v 1))]) (.p2 .idx (.v 1) (.k (.int 0))))]
def B_law_all_words : List S := [.ret (.lst [(.k (.str "on")), (.k (.str "from")), (.k (.str "mix")), (.k (.str "on")), (.k (.str "from"))])]
def B_law_address (i_law_draw i_law_address i_law_pick : Nat) : List S := [.ite (.p1 (.isT "str") (.v 1)) [.ret (.tup [])] [], .asgT [2, 3] (.v 1), .ite (.p2 .eq (.v 2) (.k (.str "row"))) [.asg 4 (.call i_law_draw [(.v 0), (.p1 .len (.v 3))] [0, 1]), .ret (.tup [(.v 4), (.call i_law_address [(.v 0), (.p2 .idx (.v 3) (.v 4))] [0, 1])])] [], .ite (.p2 .eq (.v 2) (.k (.str "mix"))) [.asg 5 (.p1 .tuple (.comp 3 [(.call i_law_draw [(.v 0), (.k (.int 6))] [0, 1])] (.n 6) (.k (.bl true)) (.call i_law_draw [(.v 0), (.k (.int 2))] [0, 1]))), .ret (.tup [(.v 5), (.call i_law_address [(.v 0), (.p2 .idx (.v 3) (.p2 .mod (.p1 .int (.p1 .len (.v 5))) (.p1 .len (.v 3))))] [0, 1])])] [], .ret (.tup [(.call i_law_draw [(.v 0), (.call i_law_pick [(.v 0), (.lst [(.k (.int 1)), (.k (.int 2)), (.k (.int 3)), (.k (.int 40))])] [0, 1])] [0, 1]), (.call i_law_address [(.v 0), (.v 3)] [0, 1])])]
def B_law_lies : List S := [.asgP [2, 3, 4] [(.k (.int 0)), (.k (.int 1)), (.k (.int 1))], .wh (.p1 .not (.p1 (.isT "str") (.v 0))) [.asgT [5, 6] (.v 0), .asgT [7, 1] (.v 1), .ite (.p2 .eq (.v 5) (.k (.str "row"))) [.asgP [2, 4, 0] [(.p2 .add (.p2 .mul (.v 2) (.p1 .len (.v 6))) (.p2 .mul (.v 7) (.v 3))), (.p2 .mul (.v 4) (.p1 .len (.v 6))), (.p2 .idx (.v 6) (.v 7))]] [.ite (.p2 .eq (.v 5) (.k (.str "mix"))) [.for_ 0 [(.v 7)] (.n 8) [.asgP [2, 4] [(.p2 .add (.p2 .mul (.v 2) (.k (.int 3))) (.p2 .mul (.p2 .mul (.k (.int 2)) (.v 8)) (.v 3))), (.p2 .mul (.v 4) (.k (.int 3)))]], .asgP [2, 4, 0] [(.p2 .add (.p2 .mul (.v 2) (.k (.int 3))) (.v 3)), (.p2 .mul (.v 4) (.k (.int 3))), (.p2 .idx (.v 6) (.p2 .mod (.p1 .int (.p1 .len (.v 7))) (.p1 .len (.v 6))))]] [.asg 9 (.k (.int 2)), .for_ 3 [(.v 7)] (.n 10) [.asg 9 (.p2 .mul (.v 9) (.k (.int 2)))], .asgP [2, 4, 0] [(.p2 .add (.p2 .mul (.v 2) (.v 9)) (.ite (.p2 .eq (.v 5) (.k (.str "on"))) (.p2 .mul (.v 3) (.p2 .sub (.v 9) (.k (.int 2)))) (.v 3))), (.p2 .mul (.v 4) (.v 9)), (.v 6)]]]], .ret (.tup [(.p2 .add (.p2 .mul (.k (.int 2)) (.v 2)) (.v 3)), (.p2 .mul (.k (.int 2)) (.v 4))])]
def B_law_is_ahead (i_law_lies : Nat) : List S := [.asgP [3, 4] [(.call i_law_lies [(.v 0), (.v 1)] [0, 1]), (.call i_law_lies [(.v 0), (.v 2)] [0, 1])], .ret (.p2 .lt (.p2 .mul (.p2 .idx (.v 3) (.k (.int 0))) (.p2 .idx (.v 4) (.k (.int 1)))) (.p2 .mul (.p2 .idx (.v 4) (.k (.int 0))) (.p2 .idx (.v 3) (.k (.int 1)))))]
def B_law_is_step : List S := [.asgT [2, 3] (.v 0), .ite (.p2 .eq (.v 2) (.k (.str "mix"))) [.ret (.and (.p1 (.isT "tuple") (.v 1)) (.and (.p2 .le (.p1 .len (.v 1)) (.k (.int 100))) (.p1 .all (.comp 0 [(.v 1)] (.n 4) (.k (.bl true)) (.and (.p1 (.isT "int") (.v 4)) (.and (.p1 .not (.p1 (.isT "bool") (.v 4))) (.p2 .inn (.v 4) (.tup [(.k (.int 0)), (.k (.int 1))]))))))))] [], .ite (.or (.p1 .not (.p1 (.isT "int") (.v 1))) (.p1 (.isT "bool") (.v 1))) [.ret (.k (.bl false))] [], .ret (.chain .le .lt (.k (.int 0)) (.v 1) (.ite (.p2 .eq (.v 2) (.k (.str "row"))) (.p1 .len (.v 3)) (.p2 .pow (.k (.int 10)) (.k (.int 30)))))]
def B_law_part : List S := [.asgT [2, 3] (.v 0), .ite (.p2 .inn (.v 2) (.tup [(.k (.str "on")), (.k (.str "from"))])) [.ret (.v 3)] [], .ret (.ite (.p2 .eq (.v 2) (.k (.str "row"))) (.p2 .idx (.v 3) (.v 1)) (.p2 .idx (.v 3) (.p2 .mod (.p1 .int (.p1 .len (.v 1))) (.p1 .len (.v 3)))))]
def B_law_piece (i_law_is_step i_law_part : Nat) : List S := [.ite (.p1 .not (.p1 (.isT "tuple") (.v 1))) [.ret (.k .non)] [], .for_ 0 [(.v 1)] (.n 2) [.ite (.or (.p1 (.isT "str") (.v 0)) (.p1 .not (.call i_law_is_step [(.v 0), (.v 2)] [0, 1]))) [.ret (.k .non)] [], .asg 0 (.call i_law_part [(.v 0), (.v 2)] [0, 1])], .ret (.v 0)]
def B_law_letter (i_law_is_step i_law_part : Nat) : List S := [.for_ 3 [(.k (.int 40))] (.n 2) [.ite (.p1 (.isT "str") (.v 0)) [.ret (.ite (.and (.p1 (.isT "tuple") (.v 1)) (.p2 .eq (.v 1) (.tup []))) (.v 0) (.k .non))] [], .ite (.or (.p1 .not (.p1 (.isT "tuple") (.v 1))) (.or (.p2 .ne (.p1 .len (.v 1)) (.k (.int 2))) (.p1 .not (.call i_law_is_step [(.v 0), (.p2 .idx (.v 1) (.k (.int 0)))] [0, 1])))) [.ret (.k .non)] [], .asgP [0, 1] [(.call i_law_part [(.v 0), (.p2 .idx (.v 1) (.k (.int 0)))] [0, 1]), (.p2 .idx (.v 1) (.k (.int 1)))]], .ret (.k .non)]
def B_law_bent (i_law_draw i_law_pick : Nat) : List S := [.asgP [5, 6] [(.lst []), (.v 1)], .for_ 3 [(.call i_law_draw [(.v 0), (.k (.int 6))] [0, 1])] (.n 2) [.ite (.and (.p1 (.isT "tuple") (.v 6)) (.p2 .ne (.v 6) (.tup []))) [.ex (.m1 .l .append (.v 5) (.tup [(.v 6), (.call i_law_draw [(.v 0), (.p1 .len (.v 6))] [0, 1])])), .asg 6 (.p2 .idx (.v 6) (.p2 .idx (.p2 .idx (.v 5) (.p1 .neg (.k (.int 1)))) (.k (.int 1))))] []], .asg 3 (.lst [(.k .non), (.k (.int 0)), (.k (.int 1)), (.k (.int 7)), (.p1 .neg (.k (.int 1))), (.k (.bl true)), (.k (.str "0")), (.tup []), (.tup [(.k (.int 0))]), (.tup [(.k (.int 0)), (.k (.int 1))]), (.tup [(.k (.int 0)), (.tup [])]), (.lst [(.v 6)]), (.tup [(.v 6)]), (.p2 .sub (.p2 .pow (.k (.int 10)) (.k (.int 30))) (.k (.int 1))), (.p2 .pow (.k (.int 10)) (.k (.int 30))), (.p2 .mul (.tup [(.k (.int 0))]) (.k (.int 100))), (.p2 .mul (.tup [(.k (.int 1))]) (.k (.int 101))), (.tup [(.k (.int 2))])]), .asg 4 (.call i_law_pick [(.v 0), (.p2 .add (.v 3) (.ite (.p1 (.isT "tuple") (.v 6)) (.lst [(.p1 .list (.v 6)), (.p3 (.slice false true) (.v 6) (.k .non) (.p1 .neg (.k (.int 1)))), (.p2 .add (.v 6) (.p3 (.slice true false) (.v 6) (.p1 .neg (.k (.int 1))) (.k .non))), (.p1 .rev (.v 6))]) (.lst [])))] [0, 1]), .for_ 0 [(.p1 .rev (.v 5))] (.t [7, 8]) [.asg 4 (.p2 .add (.p2 .add (.p3 (.slice false true) (.v 7) (.k .non) (.v 8)) (.tup [(.v 4)])) (.p3 (.slice true false) (.v 7) (.p2 .add (.v 8) (.k (.int 1))) (.k .non)))], .ret (.v 4)]
def B_law_path_of : List S := [.asg 2 (.tup []), .wh (.and (.p2 .lt (.p1 .len (.v 2)) (.v 1)) (.p2 .ne (.v 0) (.tup []))) [.asgP [2, 0] [(.p2 .add (.v 2) (.tup [(.p2 .idx (.v 0) (.k (.int 0)))])), (.p2 .idx (.v 0) (.k (.int 1)))]], .ret (.v 2)]
/-- the pot of a script's cell, by the law's own numbers -/
def B_law_pot (e1 n0 m1 c1 n1 m2 : Int) : List S := [.asg 2 (.ite (.p2 .lt (.v 1) (.p1 .len (.v 0))) (.p1 .abs (.p2 .idx (.v 0) (.v 1))) (.p2 .add (.p2 .mul (.k (.int e1)) (.v 1)) (.k (.int n0)))), .ret (.lst [(.p2 .max2 (.k (.int 0)) (.p2 .sub (.v 2) (.p2 .pow (.k (.int 10)) (.k (.int 18))))), (.p2 .add (.p2 .mod (.p1 .int (.p2 .add (.p2 .add (.p2 .mul (.p2 .mod (.p1 .int (.v 2)) (.k (.int m1))) (.k (.int c1))) (.p2 .mul (.k (.int e1)) (.v 1))) (.k (.int n1)))) (.k (.int m2))) (.k (.int 1)))])]
def B_law_draw (c1 n1 m1 m2 q : Int) : List S := [.ite (.p2 .gt (.p2 .idx (.v 0) (.k (.int 0))) (.k (.int 0))) [.asgST (.v 0) (.k (.int 0)) 2 (.p2 .divmod (.p2 .idx (.v 0) (.k (.int 0))) (.v 1)), .ret (.v 2)] [], .asgS (.v 0) (.k (.int 1)) (.p2 .mod (.p1 .int (.p2 .add (.p2 .mul (.p2 .idx (.v 0) (.k (.int 1))) (.k (.int c1))) (.k (.int n1)))) (.k (.int m1))), .ret (.p2 .mod (.p1 .int (.p2 .fdiv (.p2 .mod (.p1 .int (.p2 .mul (.p2 .idx (.v 0) (.k (.int 1))) (.p2 .idx (.v 0) (.k (.int 1))))) (.k (.int m2))) (.k (.int q)))) (.v 1))]
end Px

end

section
set_option maxHeartbeats 1000000
/-! Px2: what the shared defs compute: small tests. -/
namespace Px
open Nx
open PySem (PyData)
abbrev D := Nx.D
/-- the store only grows -/
def Ex (st st' : Sto) : Prop := ∀ (l : Nat) (o : MO), st[l]? = some o → st'[l]? = some o
theorem Ex.refl (st : Sto) : Ex st st := fun _ _ h => h
theorem Ex.trans {a b c : Sto} (h : Ex a b) (g : Ex b c) : Ex a c := fun l o e => g l o (h l o e)
theorem Ex.snoc (st : Sto) (o : MO) : Ex st (st ++ [o]) := fun l u h => by
  have hl := (List.getElem?_eq_some_iff.mp h).1
  rw [List.getElem?_append_left hl]
  exact h
/-- a value whose things stand in the store -/
def TyOk (st : Sto) (v : D) : Prop := ∀ l, v = .ref l → (st[l]?).isSome = true
theorem TyOk.ex {st st' : Sto} {v : D} (h : TyOk st v) (e : Ex st st') : TyOk st' v := fun l q => by
  have h := h l q
  cases z : st[l]? with
  | none => rw [z] at h; cases h
  | some o => rw [e l o z]; rfl
theorem i1 : isTy "int" "int" = some true := by decide +kernel
theorem i2 : isTy "bool" "int" = some true := by decide +kernel
theorem i3 : isTy "str" "int" = some false := by decide +kernel
theorem i4 : isTy "tuple" "int" = some false := by decide +kernel
theorem i5 : isTy "list" "int" = some false := by decide +kernel
theorem i6 : isTy "dict" "int" = some false := by decide +kernel
theorem i7 : isTy "NoneType" "int" = some false := by decide +kernel
theorem b1 : isTy "int" "bool" = some false := by decide +kernel
theorem b2 : isTy "bool" "bool" = some true := by decide +kernel
theorem b3 : isTy "str" "bool" = some false := by decide +kernel
theorem b4 : isTy "tuple" "bool" = some false := by decide +kernel
theorem b5 : isTy "list" "bool" = some false := by decide +kernel
theorem b6 : isTy "dict" "bool" = some false := by decide +kernel
theorem b7 : isTy "NoneType" "bool" = some false := by decide +kernel
theorem s1 : isTy "int" "str" = some false := by decide +kernel
theorem s2 : isTy "bool" "str" = some false := by decide +kernel
theorem s3 : isTy "str" "str" = some true := by decide +kernel
theorem s4 : isTy "tuple" "str" = some false := by decide +kernel
theorem s5 : isTy "list" "str" = some false := by decide +kernel
theorem s6 : isTy "dict" "str" = some false := by decide +kernel
theorem s7 : isTy "NoneType" "str" = some false := by decide +kernel
theorem u1 : isTy "int" "tuple" = some false := by decide +kernel
theorem u2 : isTy "bool" "tuple" = some false := by decide +kernel
theorem u3 : isTy "str" "tuple" = some false := by decide +kernel
theorem u4 : isTy "tuple" "tuple" = some true := by decide +kernel
theorem u5 : isTy "list" "tuple" = some false := by decide +kernel
theorem u6 : isTy "dict" "tuple" = some false := by decide +kernel
theorem u7 : isTy "NoneType" "tuple" = some false := by decide +kernel

def isI : D → Bool | .int _ => true | _ => false
def isB : D → Bool | .bl _ => true | _ => false
def isS : D → Bool | .str _ => true | _ => false
def isU : D → Bool | .tup _ => true | _ => false
/-- the class tests, for any value -/
theorem ty_cases {st : Sto} {v : D} (h : TyOk st v) : ∃ a, tyName st (.val v) = some a ∧ isTy a "int" = some (isI v || isB v) ∧ isTy a "bool" = some (isB v) ∧ isTy a "str" = some (isS v) ∧ isTy a "tuple" = some (isU v) := by
  cases v with
  | non => exact ⟨_, rfl, i7, b7, s7, u7⟩
  | bl b => exact ⟨_, rfl, i2, b2, s2, u2⟩
  | int i => exact ⟨_, rfl, i1, b1, s1, u1⟩
  | str s => exact ⟨_, rfl, i3, b3, s3, u3⟩
  | tup ds => exact ⟨_, rfl, i4, b4, s4, u4⟩
  | lis ds => exact ⟨_, rfl, i5, b5, s5, u5⟩
  | ref l =>
    have h := h l rfl
    cases q : st[l]? with
    | none => rw [q] at h; cases h
    | some o =>
      cases o with
      | lst ds => exact ⟨"list", by simp [tyName, q], i5, b5, s5, u5⟩
      | dct ds => exact ⟨"dict", by simp [tyName, q], i6, b6, s6, u6⟩
theorem op_int {st : Sto} {v : D} (h : TyOk st v) : op1 (.isT "int") (.val v) st = some (.val (.bl (isI v || isB v)), st) := by
  obtain ⟨a, e, h1, h2, h3, h4⟩ := ty_cases h
  simp [op1, e, h1, vB, vD]
theorem op_bool {st : Sto} {v : D} (h : TyOk st v) : op1 (.isT "bool") (.val v) st = some (.val (.bl (isB v)), st) := by
  obtain ⟨a, e, h1, h2, h3, h4⟩ := ty_cases h
  simp [op1, e, h2, vB, vD]
theorem op_str {st : Sto} {v : D} (h : TyOk st v) : op1 (.isT "str") (.val v) st = some (.val (.bl (isS v)), st) := by
  obtain ⟨a, e, h1, h2, h3, h4⟩ := ty_cases h
  simp [op1, e, h3, vB, vD]
theorem op_tuple {st : Sto} {v : D} (h : TyOk st v) : op1 (.isT "tuple") (.val v) st = some (.val (.bl (isU v)), st) := by
  obtain ⟨a, e, h1, h2, h3, h4⟩ := ty_cases h
  simp [op1, e, h4, vB, vD]

/-! truth values -/
section
variable {T : Calls} {a b c : C} {ρ : Rho} {st : Sto} {x y : Bool}
theorem w_and (h : evW T a ρ st = some (.val (.bl x), st)) (g : x = true → evW T b ρ st = some (.val (.bl y), st)) : evW T (.and a b) ρ st = some (.val (.bl (x && y)), st) := by
  cases x with
  | false => simp [evW, h, truth]
  | true => simp [evW, h, truth, g rfl]
theorem w_or (h : evW T a ρ st = some (.val (.bl x), st)) (g : x = false → evW T b ρ st = some (.val (.bl y), st)) : evW T (.or a b) ρ st = some (.val (.bl (x || y)), st) := by
  cases x with
  | true => simp [evW, h, truth]
  | false => simp [evW, h, truth, g rfl]
theorem w_not (h : evW T a ρ st = some (.val (.bl x), st)) : evW T (.p1 .not a) ρ st = some (.val (.bl (!x)), st) := by
  simp [evW, h, truth, op1, vB, vD]
theorem w_p1 {o : P1} {w : W} {s1 : Sto} {r : V1} (h : evW T a ρ st = some (w, s1)) (g : op1 o w s1 = r) : evW T (.p1 o a) ρ st = r := by
  simp [evW, h, g]
theorem w_p2 {o : P2} {w z : W} {s1 s2 : Sto} {r : V1} (h : evW T a ρ st = some (w, s1)) (g : evW T b ρ s1 = some (z, s2)) (q : op2 o w z s2 = r) : evW T (.p2 o a b) ρ st = r := by
  simp [evW, h, g, q]
theorem w_v {i : Nat} {d : D} (h : ρ[i]? = some (some d)) : evW T (.v i) ρ st = some (.val d, st) := by
  simp [evW, h, vD]
theorem w_k {d : D} : evW T (.k d) ρ st = some (.val d, st) := by
  simp [evW, vD]
theorem w_call {f : Nat} {as : List C} {perm : List Nat} {ds es : List D} {s1 : Sto} {r : Option (D × Sto)} (h : evA T as ρ st = some (ds, s1)) (g : permute perm ds = some es) (q : T f es s1 = r) : evW T (.call f as perm) ρ st = r.map fun p => (.val p.1, p.2) := by
  subst q
  simp only [evW, h, g]
  cases T f es s1 with
  | none => rfl
  | some p => rfl
end

section
variable {tab : Nat → Option Fn} {k i j m : Nat} {st : Sto} {v : D}
theorem x_is_integer (h : tab i = some ⟨1, 1, B_is_integer⟩) (hv : TyOk st v) : evF tab (k + 1) i [v] st = some (.bl (isI v), st) := by
  rw [run_fn h rfl]
  have e : evW (evF tab k) (.and (.p1 (.isT "int") (.v 0)) (.p1 .not (.p1 (.isT "bool") (.v 0)))) [some v] st = some (.val (.bl ((isI v || isB v) && !isB v)), st) :=
    w_and (w_p1 (w_v rfl) (op_int hv)) fun _ => w_not (w_p1 (w_v rfl) (op_bool hv))
  have e2 : ((isI v || isB v) && !isB v) = isI v := by cases v <;> rfl
  rw [e2] at e
  simp [B_is_integer, exB, exS, e, Nx.settle, retOf]
/-- least ≤ value ≤ most, of an int -/
def within (v : D) (a b : Int) : Bool := match v with
  | .int i => decide (a ≤ i) && decide (i ≤ b)
  | _ => false
theorem x_is_within {i0 : Nat} {a b : Int} (h0 : tab i0 = some ⟨1, 1, B_is_integer⟩) (h : tab i = some ⟨3, 3, B_is_within i0⟩) (hv : TyOk st v) : evF tab (k + 2) i [v, .int a, .int b] st = some (.bl (within v a b), st) := by
  rw [run_fn h rfl]
  have e : evW (evF tab (k + 1)) (.and (.call i0 [(.v 0)] [0]) (.chain .le .le (.v 1) (.v 0) (.v 2))) [some v, some (.int a), some (.int b)] st = some (.val (.bl (isI v && within v a b)), st) := by
    refine w_and ?_ fun hi => ?_
    · rw [w_call (ds := [v]) (s1 := st) (by simp [evA, evW, vD, Nx.settle]) (by simp [permute]) (x_is_integer h0 hv)]
      rfl
    · cases v <;> simp [isI] at hi
      rename_i z
      by_cases q : a ≤ z <;> simp [evW, vD, op2, vB, within, q]
  have e2 : (isI v && within v a b) = within v a b := by cases v <;> rfl
  rw [e2] at e
  simp [B_is_within, exB, exS, e, Nx.settle, retOf]
def isTupN (v : D) (n : Int) : Bool := match v with
  | .tup ds => decide ((ds.length : Int) = n)
  | _ => false
theorem eq_ints {st : Sto} {a b : Int} : op2 .eq (.val (.int a)) (.val (.int b)) st = some (.val (.bl (a == b)), st) := by
  simp [op2, eqD, toPyW, toPy, PyData.eqv, vB, vD]
theorem x_is_tuple {n : Int} (h : tab i = some ⟨2, 2, B_is_tuple⟩) (hv : TyOk st v) : evF tab (k + 1) i [v, .int n] st = some (.bl (isTupN v n), st) := by
  rw [run_fn h rfl]
  have e : evW (evF tab k) (.and (.p1 (.isT "tuple") (.v 0)) (.p2 .eq (.p1 .len (.v 0)) (.v 1))) [some v, some (.int n)] st = some (.val (.bl (isU v && isTupN v n)), st) := by
    refine w_and (w_p1 (w_v rfl) (op_tuple hv)) fun hi => ?_
    cases v <;> simp [isU] at hi
    rename_i ds
    have q : ((ds.length : Int) == n) = decide ((ds.length : Int) = n) := by
      rw [Bool.eq_iff_iff]; simp
    refine w_p2 (w_p1 (w_v rfl) (show op1 .len (.val (.tup ds)) st = some (.val (.int ds.length), st) from rfl)) (w_v rfl) ?_
    rw [eq_ints, q]
    rfl
  have e2 : (isU v && isTupN v n) = isTupN v n := by cases v <;> rfl
  rw [e2] at e
  simp [B_is_tuple, exB, exS, e, Nx.settle, retOf]
theorem x_are_parts {n : Int} {ds : List D} (h : tab i = some ⟨2, 2, B_are_parts⟩) : evF tab (k + 1) i [.tup ds, .int n] st = some (.bl (decide (n ≤ ds.length) && decide (ds.length ≤ 100)), st) := by
  rw [run_fn h rfl]
  have hv : TyOk st (.tup ds) := fun l q => nomatch q
  have e : evW (evF tab k) (.and (.p1 (.isT "tuple") (.v 0)) (.chain .le .le (.v 1) (.p1 .len (.v 0)) (.k (.int 100)))) [some (.tup ds), some (.int n)] st = some (.val (.bl (isU (.tup ds) && (decide (n ≤ ds.length) && decide (ds.length ≤ 100)))), st) := by
    refine w_and (w_p1 (w_v rfl) (op_tuple hv)) fun hi => ?_
    by_cases q : n ≤ (ds.length : Int)
    · have q2 : ((ds.length : Int) ≤ 100) ↔ ds.length ≤ 100 := by omega
      simp [evW, vD, op2, op1, vI, vB, q, q2]
    · simp [evW, vD, op2, op1, vI, vB, q]
  simp [B_are_parts, exB, exS, e, Nx.settle, retOf, isU]
end
end Px

end

section
set_option maxHeartbeats 1000000
/-! Px3: comprehensions that change nothing; letters; timelines as data. -/
namespace Px
open Nx
open PySem (PyData Str sizeLine)

section
variable {T : Calls} {kind : Nat} {as : List C} {tgt : Tg} {cc ce a b c : C} {ρ : Rho} {st s1 : Sto} {items : List D} {g : List (Nat × List D)}
theorem loop_pure {f : D → D} {F : D → Sto → Option (Option D × Sto)} {G : Sto → Bool} (hg : G s1 = true) : ∀ (l : List D), (∀ d ∈ l, F d s1 = some (some (f d), s1)) → l.length ≤ sizeLine → compLoop F G l s1 = some (l.map f, s1)
  | [], _, _ => by simp [compLoop, hg]
  | d :: r, h, hl => by
    have ih := loop_pure hg r (fun d hd => h d (by simp [hd])) (by simp at hl; omega)
    have hr : r.length < sizeLine := by simp at hl; omega
    simp [compLoop, hg, h d (by simp), ih, hr]
theorem w_comp {f : D → D} (hi : iW T kind as ρ st = some ((items, g), s1)) (hg : guardB g s1 = true) (h : ∀ d ∈ items, turnF T tgt cc ce ρ d s1 = some (some (f d), s1)) (hl : items.length ≤ sizeLine) :
    evW T (.comp kind as tgt cc ce) ρ st = some (.new (items.map f), s1) := by
  rw [comp_eq, hi]
  simp only
  rw [loop_pure hg items h hl]
/-- one turn without a condition -/
theorem turn_1 {i : Nat} {d : D} {w : W} {s2 : Sto} (h : evW T ce (ρ.set i (some d)) s1 = some (w, s2)) : turnF T (.n i) (.k (.bl true)) ce ρ d s1 = some (some (Nx.settle w s2).1, (Nx.settle w s2).2) := by
  simp [turnF, bindTg, tsW, evW, vD, truth, h]
theorem bools_map {α : Type} {p : α → Bool} : ∀ (l : List α), boolsOf (l.map fun x => .bl (p x)) = some (l.map p)
  | [] => rfl
  | x :: r => by simp [boolsOf, bools_map r]
theorem all_op {α : Type} {p : α → Bool} {l : List α} : op1 .all (.new (l.map fun x => .bl (p x))) st = some (.val (.bl (l.all p)), st) := by
  simp [op1, listOf, bools_map, vB, vD, List.all_map]
theorem any_op {α : Type} {p : α → Bool} {l : List α} : op1 .any (.new (l.map fun x => .bl (p x))) st = some (.val (.bl (l.any p)), st) := by
  simp [op1, listOf, bools_map, vB, vD, List.any_map]
/-- a walk over a tuple, a text -/
theorem i_tup {ds : List D} (h : evW T a ρ st = some (.val (.tup ds), s1)) : iW T 0 [a] ρ st = some ((ds, []), s1) := by
  simp [iW, evI, h, walkOf]
theorem i_str {z : Str} (h : evW T a ρ st = some (.val (.str z), s1)) : iW T 0 [a] ρ st = some ((signsD z, []), s1) := by
  simp [iW, evI, h, walkOf]
theorem guard_nil : guardB [] st = true := rfl
end

def abc : Str := "abcdefghijklmnopqrstuvwxyz"
def smallB (v : D) (a b : Int) : Bool := match v with
  | .str s => (decide (a ≤ s.length) && decide ((s.length : Int) ≤ b)) && s.cps.toList.all fun c => decide (c ∈ abc.cps.toList)
  | _ => false
section
variable {tab : Nat → Option Fn} {k i j m : Nat} {st : Sto} {v : D}
theorem x_is_small {a b : Int} (h : tab i = some ⟨3, 4, B_is_small⟩) (hv : TyOk st v) (hz : ∀ s, v = .str s → s.length ≤ sizeLine) : evF tab (k + 1) i [v, .int a, .int b] st = some (.bl (smallB v a b), st) := by
  rw [run_fn h rfl]
  have e : evW (evF tab k) (.and (.p1 (.isT "str") (.v 0)) (.and (.chain .le .le (.v 1) (.p1 .len (.v 0)) (.v 2)) (.p1 .all (.comp 0 [(.v 0)] (.n 3) (.k (.bl true)) (.p2 .inn (.v 3) (.k (.str "abcdefghijklmnopqrstuvwxyz"))))))) [some v, some (.int a), some (.int b), none] st = some (.val (.bl (isS v && smallB v a b)), st) := by
    refine w_and (w_p1 (w_v rfl) (op_str hv)) fun hi => ?_
    cases v <;> simp [isS] at hi
    rename_i s
    refine w_and (x := decide (a ≤ (s.length : Int)) && decide ((s.length : Int) ≤ b)) ?_ fun _ => ?_
    · by_cases q : a ≤ (s.length : Int) <;> simp [evW, vD, op1, op2, vI, vB, q]
    · refine w_p1 (w_comp (f := fun d => .bl (match d with | .str z => decide (z.cps.getD 0 0 ∈ abc.cps.toList) | _ => false)) (i_str (w_v rfl)) guard_nil (fun d hd => ?_) ?_) ?_
      · simp only [signsD, List.mem_map] at hd
        obtain ⟨c, hc, rfl⟩ := hd
        rw [turn_1 (w := .val (.bl (decide (c ∈ abc.cps.toList)))) (s2 := st)]
        · rfl
        · have hs : (⟨#[c]⟩ : Str).length = 1 := rfl
          simp [evW, vD, op2, vB, hs, abc]
      · have q := hz s rfl
        simp [signsD]
        exact q
      · rw [all_op]
        simp [signsD, List.all_map, Function.comp_def]
  have e2 : (isS v && smallB v a b) = smallB v a b := by cases v <;> rfl
  rw [e2] at e
  simp [B_is_small, exB, exS, e, Nx.settle, retOf]
theorem x_is_letter_value {i3 : Nat} (h3 : tab i3 = some ⟨3, 4, B_is_small⟩) (h : tab i = some ⟨1, 1, B_is_letter_value i3⟩) (hv : TyOk st v) (hz : ∀ s, v = .str s → s.length ≤ sizeLine) : evF tab (k + 2) i [v] st = some (.bl (smallB v 1 1), st) := by
  rw [run_fn h rfl]
  have e : evW (evF tab (k + 1)) (.call i3 [(.v 0), (.k (.int 1)), (.k (.int 1))] [0, 1, 2]) [some v] st = some (.val (.bl (smallB v 1 1)), st) := by
    rw [w_call (ds := [v, .int 1, .int 1]) (es := [v, .int 1, .int 1]) (s1 := st) (by simp [evA, evW, vD, Nx.settle]) (by simp [permute]) (x_is_small h3 hv hz)]
    rfl
  simp [B_is_letter_value, exB, exS, e, Nx.settle, retOf]
end

/-! ### timelines -/
inductive TL where
  | lt (c : Nat) | row (l : List TL) | mix (l : List TL) | on (t : TL) | fr (t : TL)
mutual
def enc : TL → D
  | .lt c => .str ⟨#[c]⟩
  | .row l => .tup [.str "row", .tup (encL l)]
  | .mix l => .tup [.str "mix", .tup (encL l)]
  | .on t => .tup [.str "on", enc t]
  | .fr t => .tup [.str "from", enc t]
def encL : List TL → List D
  | [] => []
  | t :: r => enc t :: encL r
end
theorem encL_map : ∀ (l : List TL), encL l = l.map enc
  | [] => rfl
  | t :: r => by simp [encL, encL_map r]
theorem tyOk_enc {st : Sto} (t : TL) : TyOk st (enc t) := fun l h => by cases t <;> simp [enc] at h
def isLt : TL → Bool | .lt _ => true | _ => false
def isRow : TL → Bool | .row _ => true | _ => false
mutual
def size : TL → Nat
  | .lt _ => 1
  | .row l => sizeL l
  | .mix l => sizeL l + 1
  | .on t => size t + 1
  | .fr t => size t + 1
def sizeL : List TL → Nat
  | [] => 0
  | t :: r => size t + sizeL r
end
mutual
def dep : TL → Nat
  | .lt _ => 1
  | .row l => depL l + 1
  | .mix l => depL l + 1
  | .on t => dep t + 1
  | .fr t => dep t + 1
def depL : List TL → Nat
  | [] => 0
  | t :: r => max (dep t) (depL r)
end
/-- the letters are of the alphabet's few -/
def Few (cs : List Nat) (c : Nat) : Prop := c ∈ cs
mutual
/-- a timeline as it has to be, its letters among cs -/
def Wf (cs : List Nat) : TL → Prop
  | .lt c => c ∈ cs
  | .row l => 2 ≤ l.length ∧ l.length ≤ 100 ∧ (∀ t ∈ l, isRow t = false) ∧ WfL cs l
  | .mix l => 1 ≤ l.length ∧ l.length ≤ 100 ∧ WfL cs l
  | .on t => Wf cs t
  | .fr t => Wf cs t
def WfL (cs : List Nat) : List TL → Prop
  | [] => True
  | t :: r => Wf cs t ∧ WfL cs r
end
theorem wfL_mem {cs : List Nat} : ∀ {l : List TL}, WfL cs l → ∀ t ∈ l, Wf cs t
  | [], _, t, h => by cases h
  | a :: r, ⟨h1, h2⟩, t, h => by
    rcases List.mem_cons.mp h with e | e
    · rw [e]; exact h1
    · exact wfL_mem h2 t e
end Px

end

section
set_option maxHeartbeats 1000000
/-! Px4: the measures of a timeline. -/
namespace Px
open Nx
open PySem (PyData Str sizeLine)

/-! the four words -/
theorem q1 : (("row" : Str) == "on") = false := by decide
theorem q2 : (("row" : Str) == "from") = false := by decide
theorem q3 : (("row" : Str) == "mix") = false := by decide
theorem q4 : (("on" : Str) == "row") = false := by decide
theorem q5 : (("on" : Str) == "from") = false := by decide
theorem q6 : (("on" : Str) == "mix") = false := by decide
theorem q7 : (("from" : Str) == "row") = false := by decide
theorem q8 : (("from" : Str) == "on") = false := by decide
theorem q9 : (("from" : Str) == "mix") = false := by decide
theorem q10 : (("mix" : Str) == "row") = false := by decide
theorem q11 : (("mix" : Str) == "on") = false := by decide
theorem q12 : (("mix" : Str) == "from") = false := by decide
theorem p1' : (("row" : Str) = "on") = False := by simp; decide
theorem p2' : (("row" : Str) = "from") = False := by simp; decide
theorem p3' : (("row" : Str) = "mix") = False := by simp; decide
theorem p4' : (("on" : Str) = "row") = False := by simp; decide
theorem p5' : (("on" : Str) = "from") = False := by simp; decide
theorem p6' : (("on" : Str) = "mix") = False := by simp; decide
theorem p7' : (("from" : Str) = "row") = False := by simp; decide
theorem p8' : (("from" : Str) = "on") = False := by simp; decide
theorem p9' : (("from" : Str) = "mix") = False := by simp; decide
theorem p10' : (("mix" : Str) = "row") = False := by simp; decide
theorem p11' : (("mix" : Str) = "on") = False := by simp; decide
theorem p12' : (("mix" : Str) = "from") = False := by simp; decide

/-! keys -/
abbrev KV := List (L2.Key × D)
def KeysIn (cs : List Nat) (kvs : KV) : Prop := (kvs.map (·.1)).Nodup ∧ ∀ p ∈ kvs, ∃ c ∈ cs, p.1 = .inr ⟨#[c]⟩
theorem keys_put {cs : List Nat} {kvs : KV} {c : Nat} {d : D} (h : KeysIn cs kvs) (hc : c ∈ cs) : KeysIn cs (putKD kvs (.inr ⟨#[c]⟩) d) := by
  unfold putKD
  split
  · refine ⟨?_, fun p hp => ?_⟩
    · have e : (kvs.map fun kv => if kv.1 = .inr ⟨#[c]⟩ then (kv.1, d) else kv).map (·.1) = kvs.map (·.1) := by
        rw [List.map_map]
        refine List.map_congr_left fun kv _ => ?_
        simp only [Function.comp]
        split <;> rfl
      rw [e]
      exact h.1
    · simp only [List.mem_map] at hp
      obtain ⟨kv, h1, h2⟩ := hp
      split at h2
      · subst h2; exact h.2 kv h1
      · subst h2; exact h.2 kv h1
  · rename_i hn
    refine ⟨?_, fun p hp => ?_⟩
    · rw [List.map_append]
      refine List.nodup_append.mpr ⟨h.1, by simp, fun a ha b hb e => hn ?_⟩
      simp only [List.map_cons, List.map_nil, List.mem_singleton] at hb
      subst hb
      obtain ⟨kv, h1, h2⟩ := List.mem_map.mp ha
      rw [List.any_eq_true]
      exact ⟨kv, h1, by rw [h2, e]; simp⟩
    · rcases List.mem_append.mp hp with q | q
      · exact h.2 p q
      · simp only [List.mem_singleton] at q
        subst q
        exact ⟨c, hc, rfl⟩
theorem keys_merge {cs : List Nat} : ∀ {more kvs : KV}, KeysIn cs kvs → KeysIn cs more → KeysIn cs (mergeKD kvs more)
  | [], kvs, h, _ => h
  | p :: r, kvs, h, g => by
    obtain ⟨c, hc, e⟩ := g.2 p (by simp)
    show KeysIn cs (mergeKD (putKD kvs p.1 p.2) r)
    rw [e]
    exact keys_merge (keys_put h hc) ⟨(List.nodup_cons.mp g.1).2, fun q hq => g.2 q (by simp [hq])⟩
theorem sub_len {α : Type} [DecidableEq α] : ∀ {as bs : List α}, as.Nodup → (∀ x ∈ as, x ∈ bs) → as.length ≤ bs.length
  | [], bs, _, _ => by simp
  | a :: as, bs, n, h => by
    obtain ⟨n1, n2⟩ := List.nodup_cons.mp n
    have ha : a ∈ bs := h a (by simp)
    have q := sub_len n2 (bs := bs.erase a) fun x hx => (List.mem_erase_of_ne (fun e => n1 (by rw [← e]; exact hx))).mpr (h x (by simp [hx]))
    rw [List.length_erase_of_mem ha] at q
    have : 0 < bs.length := List.length_pos_of_mem ha
    simp
    omega
theorem keys_len {cs : List Nat} {kvs : KV} (h : KeysIn cs kvs) : kvs.length ≤ cs.length := by
  have q := sub_len (as := kvs.map (·.1)) (bs := cs.map fun c => (Sum.inr ⟨#[c]⟩ : L2.Key)) h.1 fun x hx => by
    obtain ⟨p, h1, rfl⟩ := List.mem_map.mp hx
    obtain ⟨c, h2, h3⟩ := h.2 p h1
    rw [h3]
    exact List.mem_map_of_mem h2
  simpa using q
theorem Ex.set {a b : Sto} {l : Nat} {o : MO} (h : Ex a b) (hl : a.length ≤ l) : Ex a (b.set l o) := fun j u e => by
  have hj := (List.getElem?_eq_some_iff.mp e).1
  rw [List.getElem?_set_ne (by omega)]
  exact h j u e
theorem Ex.len {a b : Sto} (h : Ex a b) : a.length ≤ b.length := by
  by_cases e : a.length = 0
  · omega
  · have q := h (a.length - 1) (a[a.length - 1]'(by omega)) (List.getElem?_eq_getElem (by omega))
    have := (List.getElem?_eq_some_iff.mp q).1
    omega
theorem at_snoc (st : Sto) (o : MO) : (st ++ [o])[st.length]? = some o := by simp

/-- what is known of measures -/
structure MeasAt (tab : Nat → Option Fn) (i4 i2 im i5 i3 : Nat) : Prop where
  t3 : tab i3 = some ⟨3, 4, B_is_small⟩
  t4 : tab i4 = some ⟨1, 1, B_is_letter_value i3⟩
  t2 : tab i2 = some ⟨2, 2, B_is_tuple⟩
  t5 : tab i5 = some ⟨2, 2, B_are_parts⟩
  tm : tab im = some ⟨2, 9, B_measures i4 i2 im i5⟩
def Alpha (cs : List Nat) : Prop := ∀ c ∈ cs, c ∈ abc.cps.toList
theorem small_lt {c : Nat} (h : c ∈ abc.cps.toList) : smallB (.str ⟨#[c]⟩) 1 1 = true := by
  have hl : (⟨#[c]⟩ : Str).length = 1 := rfl
  have h2 : c ∈ abc.cps := by simpa using h
  simp [smallB, hl, h2]
theorem line1 : (1 : Nat) ≤ sizeLine := by decide

/-- the promise of measures at a depth -/
def MeasOk (tab : Nat → Option Fn) (im : Nat) (cs : List Nat) (L : Nat) (t : TL) : Prop := ∀ (n : Int) (st : Sto), (dep t : Int) ≤ n →
  ∃ l kvs st', evF tab L im [enc t, .int n] st = some (.tup [.int (size t), .int (dep t), .ref l], st') ∧ Ex st st' ∧ st.length ≤ l ∧ st'[l]? = some (.dct kvs) ∧ KeysIn cs kvs
section
variable {tab : Nat → Option Fn} {i4 i2 im i5 i3 : Nat} {cs : List Nat}
theorem meas_lt (M : MeasAt tab i4 i2 im i5 i3) (A : Alpha cs) {c : Nat} (hc : c ∈ cs) (k : Nat) : MeasOk tab im cs (k + 3) (.lt c) := by
  intro n st hn
  refine ⟨st.length, [(.inr ⟨#[c]⟩, .bl true)], st ++ [.dct [(.inr ⟨#[c]⟩, .bl true)]], ?_, Ex.snoc st _, Nat.le_refl _, at_snoc st _, by simp, fun p hp => ?_⟩
  · rw [run_fn M.tm rfl]
    have e4 : evF tab (k + 2) i4 [.str ⟨#[c]⟩] st = some (.bl true, st) := by
      rw [x_is_letter_value (v := .str ⟨#[c]⟩) M.t3 M.t4 (tyOk_enc (.lt c)) (fun s h => by cases h; exact line1), small_lt (A c hc)]
    simp [B_measures, enc, exB, exS, evW, evA, evA2, permute, e4, truth, vD, keyOf, mergeKD, putKD, Nx.settle, retOf, size, dep, sizeLine]
  · simp at hp
    subst hp
    exact ⟨c, hc, rfl⟩
end
end Px

end

section
set_option maxHeartbeats 2000000
/-! Px5: the measures of a whole timeline. -/
namespace Px
open Nx
open PySem (PyData Str sizeLine)
theorem dep_pos (t : TL) : 1 ≤ dep t := by cases t <;> simp [dep]
theorem size_pos {cs : List Nat} : ∀ (t : TL), Wf cs t → 1 ≤ size t
  | .lt c, _ => by simp [size]
  | .on t, h => by simp [size]
  | .fr t, h => by simp [size]
  | .mix l, h => by simp [size]
  | .row l, h => by
    obtain ⟨h1, h2, h3, h4⟩ := h
    match l, h1, h4 with
    | a :: r, _, ⟨g1, _⟩ =>
      have := size_pos a g1
      simp only [size, sizeL]
      omega
section
variable {tab : Nat → Option Fn} {i4 i2 im i5 i3 : Nat} {cs : List Nat} {k : Nat}
theorem f_letter (M : MeasAt tab i4 i2 im i5 i3) {ds : List D} {st : Sto} : evF tab (k + 2) i4 [.tup ds] st = some (.bl false, st) := by
  rw [x_is_letter_value (v := .tup ds) M.t3 M.t4 (fun l h => by cases h) (fun s h => by cases h)]
  rfl
theorem f_tuple (M : MeasAt tab i4 i2 im i5 i3) {a b : D} {st : Sto} : evF tab (k + 2) i2 [.tup [a, b], .int 2] st = some (.bl true, st) := by
  rw [x_is_tuple (k := k + 1) (v := .tup [a, b]) M.t2 (fun l h => by cases h)]
  rfl
theorem tyOk_str {st : Sto} {s : Str} : TyOk st (.str s) := fun l h => by cases h
theorem meas_on (M : MeasAt tab i4 i2 im i5 i3) {t : TL} (h : MeasOk tab im cs (k + 2) t) : MeasOk tab im cs (k + 3) (.on t) := by
  intro n st hn
  have hd := dep_pos t
  have hn : (dep t : Int) + 1 ≤ n := by simpa [dep] using hn
  obtain ⟨l, kvs, st', e, x, hl, hk, ki⟩ := h (n - 1) st (by omega)
  refine ⟨l, kvs, st', ?_, x, hl, hk, ki⟩
  have hn2 : ¬ n < 2 := by omega
  rw [run_fn M.tm rfl]
  simp [B_measures, enc, exB, exS, evW, evA, permute, f_letter M, f_tuple M, evs, opsI, opsN, opsX, o_in2, o_nin2, vD, PySem.sizeLine_eq, hn2, op_str, tyOk_str, isS, bindTg, q1, q2, q3, q4, q5, q6, q7, q8, q9, q10, q11, q12, e, retOf, size, dep]
theorem meas_fr (M : MeasAt tab i4 i2 im i5 i3) {t : TL} (h : MeasOk tab im cs (k + 2) t) : MeasOk tab im cs (k + 3) (.fr t) := by
  intro n st hn
  have hd := dep_pos t
  have hn : (dep t : Int) + 1 ≤ n := by simpa [dep] using hn
  obtain ⟨l, kvs, st', e, x, hl, hk, ki⟩ := h (n - 1) st (by omega)
  refine ⟨l, kvs, st', ?_, x, hl, hk, ki⟩
  have hn2 : ¬ n < 2 := by omega
  rw [run_fn M.tm rfl]
  simp [B_measures, enc, exB, exS, evW, evA, permute, f_letter M, f_tuple M, evs, opsI, opsN, opsX, o_in2, o_nin2, vD, PySem.sizeLine_eq, hn2, op_str, tyOk_str, isS, bindTg, q1, q2, q3, q4, q5, q6, q7, q8, q9, q10, q11, q12, e, retOf, size, dep]
/-- the work of one turn -/
def measBody (im : Nat) : List S := [.asg 5 (.call im [(.v 2), (.p2 .sub (.v 1) (.k (.int 1)))] [0, 1]), .ite (.p2 .is (.v 5) (.k .non)) [.ret (.k .non)] [], .asgP [6, 7] [(.p2 .add (.v 6) (.p2 .idx (.v 5) (.k (.int 0)))), (.p2 .max2 (.v 7) (.p2 .idx (.v 5) (.k (.int 1))))], .ex (.m1 .d .update (.v 8) (.p2 .idx (.v 5) (.k (.int 2)))), .ite (.p2 .gt (.v 6) (.k (.int 100))) [.ret (.k .non)] []]
theorem max_if (a b : Nat) : (if (b : Int) > (a : Int) then (b : Int) else (a : Int)) = ((max a b : Nat) : Int) := by
  split <;> omega
theorem meas_step {L : Nat} {t : TL} (hc : cs.length ≤ 100) (h : MeasOk tab im cs L t) {n : Int} {v0 v3 v4 : D} {o5 : Option D} {s d lo : Nat} {st st0 : Sto} {kvs0 : KV} (hd : (dep t : Int) ≤ n - 1) (hs : s + size t ≤ 100)
    (x0 : Ex st0 st) (l0 : st0.length ≤ lo) (hk0 : st[lo]? = some (.dct kvs0)) (ki0 : KeysIn cs kvs0) :
    ∃ o5' st' kvs', exB (evF tab L) (measBody im) [some v0, some (.int n), some (enc t), some v3, some v4, o5, some (.int s), some (.int d), some (.ref lo)] st =
      some (.nx, [some v0, some (.int n), some (enc t), some v3, some v4, o5', some (.int ((s + size t : Nat) : Int)), some (.int ((max d (dep t) : Nat) : Int)), some (.ref lo)], st') ∧ Ex st0 st' ∧ st'[lo]? = some (.dct kvs') ∧ KeysIn cs kvs' := by
  obtain ⟨l, kvs, st', e, x, hl, hk, ki⟩ := h (n - 1) st hd
  have hlo : st'[lo]? = some (.dct kvs0) := x lo _ hk0
  have hlen : lo < st.length := (List.getElem?_eq_some_iff.mp hk0).1
  have hne : lo ≠ l := by omega
  have h1 := keys_len ki0
  have h2 := keys_len ki
  have hz : kvs0.length + kvs.length ≤ 1000 := by omega
  have hup : op2 .update (.val (.ref lo)) (.val (.ref l)) st' = some (.val .non, st'.set lo (.dct (mergeKD kvs0 kvs))) := by
    simp [op2, hlo, hk, hz, hne]
  have hrc : rcOk .d (.val (.ref lo)) st' = true := by simp [rcOk, hlo]
  have hgt : ¬ (100 : Int) < (s : Int) + (size t : Int) := by omega
  refine ⟨some (.tup [.int (size t), .int (dep t), .ref l]), st'.set lo (.dct (mergeKD kvs0 kvs)), mergeKD kvs0 kvs, ?_, (x0.trans x).set l0, ?_, keys_merge ki0 ki⟩
  · simp [measBody, exB, exS, evW, evA, permute, evs, opsI, opsN, opsX, vD, e, hup, hrc, hgt]
    split <;> omega
  · have : lo < st'.length := (List.getElem?_eq_some_iff.mp hlo).1
    simp [this]
theorem meas_for {L : Nat} (hc : cs.length ≤ 100) {n : Int} {v0 v3 v4 : D} {lo : Nat} {st0 : Sto} (l0 : st0.length ≤ lo) : ∀ (l : List TL), (∀ t ∈ l, MeasOk tab im cs L t) → (depL l : Int) ≤ n - 1 → ∀ (s d : Nat) (o2 o5 : Option D) (st : Sto) (kvs0 : KV), s + sizeL l ≤ 100 →
    Ex st0 st → st[lo]? = some (.dct kvs0) → KeysIn cs kvs0 →
    ∃ o2' o5' st' kvs', forLoop (fun d r s => match bindTg (.n 2) d r with
        | some r1 => exB (evF tab L) (measBody im) r1 s
        | none => none) (guardB []) (encL l) [some v0, some (.int n), o2, some v3, some v4, o5, some (.int s), some (.int d), some (.ref lo)] st =
      some (.nx, [some v0, some (.int n), o2', some v3, some v4, o5', some (.int ((s + sizeL l : Nat) : Int)), some (.int ((max d (depL l) : Nat) : Int)), some (.ref lo)], st') ∧ Ex st0 st' ∧ st'[lo]? = some (.dct kvs') ∧ KeysIn cs kvs'
  | [], _, _, s, d, o2, o5, st, kvs0, _, x0, hk, ki => ⟨o2, o5, st, kvs0, by simp [encL, forLoop, guard_nil, sizeL, depL], x0, hk, ki⟩
  | t :: r, h, hd, s, d, o2, o5, st, kvs0, hs, x0, hk, ki => by
    have hs' : s + size t + sizeL r ≤ 100 := by simp [sizeL] at hs; omega
    have hd1 : (dep t : Int) ≤ n - 1 := by simp [depL] at hd; omega
    have hd2 : (depL r : Int) ≤ n - 1 := by simp [depL] at hd; omega
    obtain ⟨o5', st1, kvs1, e1, x1, hk1, ki1⟩ := meas_step hc (h t (by simp)) (v0 := v0) (v3 := v3) (v4 := v4) (o5 := o5) (s := s) (d := d) hd1 (by omega) x0 l0 hk ki
    obtain ⟨o2', o5'', st2, kvs2, e2, x2, hk2, ki2⟩ := meas_for hc l0 r (fun t ht => h t (by simp [ht])) hd2 (s + size t) (max d (dep t)) (some (enc t)) o5' st1 kvs1 hs' x1 hk1 ki1
    refine ⟨o2', o5'', st2, kvs2, ?_, x2, hk2, ki2⟩
    have b : bindTg (.n 2) (enc t) [some v0, some (.int n), o2, some v3, some v4, o5, some (.int (s : Int)), some (.int (d : Int)), some (.ref lo)] = some [some v0, some (.int n), some (enc t), some v3, some v4, o5, some (.int (s : Int)), some (.int (d : Int)), some (.ref lo)] := rfl
    rw [encL, forLoop, guard_nil, if_pos rfl, b]
    simp only [e1]
    rw [e2]
    have a1 : s + size t + sizeL r = s + sizeL (t :: r) := by simp [sizeL]; omega
    have a2 : max (max d (dep t)) (depL r) = max d (depL (t :: r)) := by simp [depL, Nat.max_assoc]
    rw [a1, a2]
theorem b_nx {T : Calls} {x : Nx.S} {xs : List Nx.S} {ρ ρ1 : Rho} {st st1 : Sto} (h : exS T x ρ st = some (.nx, ρ1, st1)) : exB T (x :: xs) ρ st = exB T xs ρ1 st1 := by
  rw [exB, h]
theorem s_iteF {T : Calls} {c : C} {a : List Nx.S} {ρ : Rho} {st st1 : Sto} (h : evW T c ρ st = some (.val (.bl false), st1)) : exS T (.ite c a []) ρ st = some (.nx, ρ, st1) := by
  simp [exS, h, truth, exB]
theorem s_for0 {T : Calls} {a : C} {tg : Tg} {b : List Nx.S} {ρ : Rho} {st st1 : Sto} {ds : List D} (h : evW T a ρ st = some (.val (.tup ds), st1)) : exS T (.for_ 0 [a] tg b) ρ st = forLoop (fun d r s => match bindTg tg d r with
        | some r1 => exB T b r1 s
        | none => none) (guardB []) ds ρ st1 := by
  rw [for_eq, i_tup h]
  all_goals rfl
/-- no row in a row -/
theorem no_row (M : MeasAt tab i4 i2 im i5 i3) {l : List TL} (hl : l.length ≤ 100) (hr : ∀ t ∈ l, isRow t = false) {v0 n v3 : D} {st : Sto} :
    evW (evF tab (k + 2)) (.p1 .any (.comp 0 [(.v 4)] (.n 2) (.k (.bl true)) (.and (.call i2 [(.v 2), (.k (.int 2))] [0, 1]) (.and (.p1 (.isT "str") (.p2 .idx (.v 2) (.k (.int 0)))) (.p2 .eq (.p2 .idx (.v 2) (.k (.int 0))) (.k (.str "row")))))))
      [some v0, some n, none, some v3, some (.tup (encL l)), none, none, none, none] st = some (.val (.bl false), st) := by
  refine w_p1 (w_comp (f := fun _ => .bl false) (i_tup (w_v rfl)) guard_nil (fun d hd => ?_) ?_) ?_
  · rw [encL_map] at hd
    obtain ⟨t, ht, rfl⟩ := List.mem_map.mp hd
    have hh := hr t ht
    rw [turn_1 (w := .val (.bl false)) (s2 := st)]
    · rfl
    · have e2 : evF tab (k + 2) i2 [enc t, .int 2] st = some (.bl (isTupN (enc t) 2), st) := x_is_tuple (k := k + 1) M.t2 (tyOk_enc t)
      cases t with
      | lt c => simp [evW, evA, permute, evs, vD, enc] at e2 ⊢; simp [e2, isTupN, truth]
      | row l => simp [isRow] at hh
      | mix l => simp [evW, evA, permute, evs, vD, enc] at e2 ⊢; simp [e2, isTupN, truth, opsX, op_str, tyOk_str, isS, o_eqS, p10']
      | on t => simp [evW, evA, permute, evs, vD, enc] at e2 ⊢; simp [e2, isTupN, truth, opsX, op_str, tyOk_str, isS, o_eqS, p4']
      | fr t => simp [evW, evA, permute, evs, vD, enc] at e2 ⊢; simp [e2, isTupN, truth, opsX, op_str, tyOk_str, isS, o_eqS, p7']
  · rw [encL_map, List.length_map, PySem.sizeLine_eq]; omega
  · have := any_op (st := st) (p := fun _ : D => false) (l := encL l)
    rw [this]
    simp
theorem meas_row (M : MeasAt tab i4 i2 im i5 i3) (hc : cs.length ≤ 100) {l : List TL} (h : ∀ t ∈ l, MeasOk tab im cs (k + 2) t) (h2 : 2 ≤ l.length) (hl : l.length ≤ 100) (hr : ∀ t ∈ l, isRow t = false) (hs : sizeL l ≤ 100) : MeasOk tab im cs (k + 3) (.row l) := by
  intro n st hn
  have hn : (depL l : Int) + 1 ≤ n := by simpa [dep] using hn
  have hd : 1 ≤ depL l := by
    match l, h2 with
    | a :: r, _ => have := dep_pos a; simp only [depL]; omega
  have hlen : (encL l).length = l.length := by rw [encL_map, List.length_map]
  have hn2 : ¬ n < 2 := by omega
  have e5 : evF tab (k + 2) i5 [.tup (encL l), .int 2] st = some (.bl true, st) := by
    rw [x_are_parts (k := k + 1) M.t5, hlen]
    have a : (2 : Int) ≤ (l.length : Int) := by omega
    simp [a, hl]
  obtain ⟨o2, o5, st', kvs, e, x, hk, ki⟩ := meas_for (n := n) (v0 := enc (.row l)) (v3 := .str "row") (v4 := .tup (encL l)) hc (lo := st.length) (st0 := st) (Nat.le_refl _) l h (by omega) 0 0 none none (st ++ [.dct []]) [] (by omega) (Ex.snoc st _) (at_snoc st _) ⟨List.nodup_nil, fun p hp => by cases hp⟩
  refine ⟨st.length, kvs, st', ?_, x, Nat.le_refl _, hk, ki⟩
  rw [run_fn M.tm rfl]
  show retOf (exB (evF tab (k + 2)) (B_measures i4 i2 im i5) [some (enc (.row l)), some (.int n), none, none, none, none, none, none, none] st) = _
  have a1 : evW (evF tab (k + 2)) (.call i4 [(.v 0)] [0]) [some (enc (.row l)), some (.int n), none, none, none, none, none, none, none] st = some (.val (.bl false), st) := by
    simp [evW, evA, permute, enc, f_letter M, evs, vD]
  have a2 : evW (evF tab (k + 2)) (.or (.p2 .lt (.v 1) (.k (.int 2))) (.or (.p1 .not (.call i2 [(.v 0), (.k (.int 2))] [0, 1])) (.p1 .not (.p1 (.isT "str") (.p2 .idx (.v 0) (.k (.int 0))))))) [some (enc (.row l)), some (.int n), none, none, none, none, none, none, none] st = some (.val (.bl false), st) := by
    simp [evW, evA, permute, enc, f_tuple M, evs, vD, opsI, opsX, hn2, op_str, tyOk_str, isS]
  have a3 : exS (evF tab (k + 2)) (.asgT [3, 4] (.v 0)) [some (enc (.row l)), some (.int n), none, none, none, none, none, none, none] st = some (.nx, [some (enc (.row l)), some (.int n), none, some (.str "row"), some (.tup (encL l)), none, none, none, none], st) := by
    simp [exS, evW, enc, vD, bindTg]
  have a4 : evW (evF tab (k + 2)) (.p2 .inn (.v 3) (.tup [(.k (.str "on")), (.k (.str "from"))])) [some (enc (.row l)), some (.int n), none, some (.str "row"), some (.tup (encL l)), none, none, none, none] st = some (.val (.bl false), st) := by
    simp [evW, evA, evs, vD, PySem.sizeLine_eq, o_in2, q1, q2, q3, q4, q5, q6, q7, q8, q9, q10, q11, q12]
  have a5 : evW (evF tab (k + 2)) (.or (.p2 .nin (.v 3) (.tup [(.k (.str "row")), (.k (.str "mix"))])) (.p1 .not (.call i5 [(.v 4), (.ite (.p2 .eq (.v 3) (.k (.str "row"))) (.k (.int 2)) (.k (.int 1)))] [0, 1]))) [some (enc (.row l)), some (.int n), none, some (.str "row"), some (.tup (encL l)), none, none, none, none] st = some (.val (.bl false), st) := by
    simp [evW, evA, permute, evs, vD, PySem.sizeLine_eq, opsI, o_nin2, o_eqS, e5]
  have a6 : evW (evF tab (k + 2)) (.p2 .eq (.v 3) (.k (.str "row"))) [some (enc (.row l)), some (.int n), none, some (.str "row"), some (.tup (encL l)), none, none, none, none] st = some (.val (.bl true), st) := by
    simp [evW, evs, vD, o_eqS]
  have a7 := w_and a6 fun _ => no_row (k := k) M hl hr (v0 := enc (.row l)) (n := .int n) (v3 := .str "row") (st := st)
  have a8 : exS (evF tab (k + 2)) (.asgP [6, 7, 8] [(.ite (.p2 .eq (.v 3) (.k (.str "row"))) (.k (.int 0)) (.k (.int 1))), (.k (.int 0)), (.dict [])]) [some (enc (.row l)), some (.int n), none, some (.str "row"), some (.tup (encL l)), none, none, none, none] st = some (.nx, [some (enc (.row l)), some (.int n), none, some (.str "row"), some (.tup (encL l)), none, some (.int 0), some (.int 0), some (.ref st.length)], st ++ [.dct []]) := by
    simp [exS, evW, evA, evA2, evs, vD, o_eqS, mergeKD]
  have a9 := s_for0 (T := evF tab (k + 2)) (a := .v 4) (tg := .n 2) (b := measBody im) (ρ := [some (enc (.row l)), some (.int n), none, some (.str "row"), some (.tup (encL l)), none, some (.int 0), some (.int 0), some (.ref st.length)]) (st := st ++ [.dct []]) (st1 := st ++ [.dct []]) (ds := encL l) (w_v rfl)
  have e := a9.trans e
  unfold B_measures
  rw [b_nx (s_iteF a1), b_nx (s_iteF a2), b_nx a3, b_nx (s_iteF a4), b_nx (s_iteF a5), b_nx (s_iteF a7), b_nx a8]
  show retOf (exB _ (.for_ 0 [(.v 4)] (.n 2) (measBody im) :: _) _ _) = _
  rw [b_nx e]
  simp [exB, exS, evW, evA, evs, vD, opsI, PySem.sizeLine_eq, retOf, size, dep]
theorem meas_mix (M : MeasAt tab i4 i2 im i5 i3) (hc : cs.length ≤ 100) {l : List TL} (h : ∀ t ∈ l, MeasOk tab im cs (k + 2) t) (h2 : 1 ≤ l.length) (hl : l.length ≤ 100) (hs : sizeL l + 1 ≤ 100) : MeasOk tab im cs (k + 3) (.mix l) := by
  intro n st hn
  have hn : (depL l : Int) + 1 ≤ n := by simpa [dep] using hn
  have hd : 1 ≤ depL l := by
    match l, h2 with
    | a :: r, _ => have := dep_pos a; simp only [depL]; omega
  have hlen : (encL l).length = l.length := by rw [encL_map, List.length_map]
  have hn2 : ¬ n < 2 := by omega
  have e5 : evF tab (k + 2) i5 [.tup (encL l), .int 1] st = some (.bl true, st) := by
    rw [x_are_parts (k := k + 1) M.t5, hlen]
    have a : (1 : Int) ≤ (l.length : Int) := by omega
    simp [a, hl]
  obtain ⟨o2, o5, st', kvs, e, x, hk, ki⟩ := meas_for (n := n) (v0 := enc (.mix l)) (v3 := .str "mix") (v4 := .tup (encL l)) hc (lo := st.length) (st0 := st) (Nat.le_refl _) l h (by omega) 1 0 none none (st ++ [.dct []]) [] (by omega) (Ex.snoc st _) (at_snoc st _) ⟨List.nodup_nil, fun p hp => by cases hp⟩
  refine ⟨st.length, kvs, st', ?_, x, Nat.le_refl _, hk, ki⟩
  rw [run_fn M.tm rfl]
  show retOf (exB (evF tab (k + 2)) (B_measures i4 i2 im i5) [some (enc (.mix l)), some (.int n), none, none, none, none, none, none, none] st) = _
  have a1 : evW (evF tab (k + 2)) (.call i4 [(.v 0)] [0]) [some (enc (.mix l)), some (.int n), none, none, none, none, none, none, none] st = some (.val (.bl false), st) := by
    simp [evW, evA, permute, enc, f_letter M, evs, vD]
  have a2 : evW (evF tab (k + 2)) (.or (.p2 .lt (.v 1) (.k (.int 2))) (.or (.p1 .not (.call i2 [(.v 0), (.k (.int 2))] [0, 1])) (.p1 .not (.p1 (.isT "str") (.p2 .idx (.v 0) (.k (.int 0))))))) [some (enc (.mix l)), some (.int n), none, none, none, none, none, none, none] st = some (.val (.bl false), st) := by
    simp [evW, evA, permute, enc, f_tuple M, evs, vD, opsI, opsX, hn2, op_str, tyOk_str, isS]
  have a3 : exS (evF tab (k + 2)) (.asgT [3, 4] (.v 0)) [some (enc (.mix l)), some (.int n), none, none, none, none, none, none, none] st = some (.nx, [some (enc (.mix l)), some (.int n), none, some (.str "mix"), some (.tup (encL l)), none, none, none, none], st) := by
    simp [exS, evW, enc, vD, bindTg]
  have a4 : evW (evF tab (k + 2)) (.p2 .inn (.v 3) (.tup [(.k (.str "on")), (.k (.str "from"))])) [some (enc (.mix l)), some (.int n), none, some (.str "mix"), some (.tup (encL l)), none, none, none, none] st = some (.val (.bl false), st) := by
    simp [evW, evA, evs, vD, PySem.sizeLine_eq, o_in2, q1, q2, q3, q4, q5, q6, q7, q8, q9, q10, q11, q12]
  have a5 : evW (evF tab (k + 2)) (.or (.p2 .nin (.v 3) (.tup [(.k (.str "row")), (.k (.str "mix"))])) (.p1 .not (.call i5 [(.v 4), (.ite (.p2 .eq (.v 3) (.k (.str "row"))) (.k (.int 2)) (.k (.int 1)))] [0, 1]))) [some (enc (.mix l)), some (.int n), none, some (.str "mix"), some (.tup (encL l)), none, none, none, none] st = some (.val (.bl false), st) := by
    simp [evW, evA, permute, evs, vD, PySem.sizeLine_eq, opsI, o_nin2, o_eqS, p10', q10, q12, e5]
  have a6 : evW (evF tab (k + 2)) (.p2 .eq (.v 3) (.k (.str "row"))) [some (enc (.mix l)), some (.int n), none, some (.str "mix"), some (.tup (encL l)), none, none, none, none] st = some (.val (.bl false), st) := by
    simp [evW, evs, vD, o_eqS, p10']
  have a7 := w_and (b := (.p1 .any (.comp 0 [(.v 4)] (.n 2) (.k (.bl true)) (.and (.call i2 [(.v 2), (.k (.int 2))] [0, 1]) (.and (.p1 (.isT "str") (.p2 .idx (.v 2) (.k (.int 0)))) (.p2 .eq (.p2 .idx (.v 2) (.k (.int 0))) (.k (.str "row")))))))) (y := false) a6 fun h => by cases h
  have a8 : exS (evF tab (k + 2)) (.asgP [6, 7, 8] [(.ite (.p2 .eq (.v 3) (.k (.str "row"))) (.k (.int 0)) (.k (.int 1))), (.k (.int 0)), (.dict [])]) [some (enc (.mix l)), some (.int n), none, some (.str "mix"), some (.tup (encL l)), none, none, none, none] st = some (.nx, [some (enc (.mix l)), some (.int n), none, some (.str "mix"), some (.tup (encL l)), none, some (.int 1), some (.int 0), some (.ref st.length)], st ++ [.dct []]) := by
    simp [exS, evW, evA, evA2, evs, vD, o_eqS, p10', mergeKD]
  have a9 := s_for0 (T := evF tab (k + 2)) (a := .v 4) (tg := .n 2) (b := measBody im) (ρ := [some (enc (.mix l)), some (.int n), none, some (.str "mix"), some (.tup (encL l)), none, some (.int 1), some (.int 0), some (.ref st.length)]) (st := st ++ [.dct []]) (st1 := st ++ [.dct []]) (ds := encL l) (w_v rfl)
  have e := a9.trans e
  unfold B_measures
  rw [b_nx (s_iteF a1), b_nx (s_iteF a2), b_nx a3, b_nx (s_iteF a4), b_nx (s_iteF a5), b_nx (s_iteF a7), b_nx a8]
  show retOf (exB _ (.for_ 0 [(.v 4)] (.n 2) (measBody im) :: _) _ _) = _
  rw [b_nx e]
  simp [exB, exS, evW, evA, evs, vD, opsI, PySem.sizeLine_eq, retOf, size, dep]
  omega
theorem meas_all (M : MeasAt tab i4 i2 im i5 i3) (A : Alpha cs) (hc : cs.length ≤ 100) (k : Nat) : ∀ (d : Nat) (t : TL), dep t ≤ d → Wf cs t → size t ≤ 100 → MeasOk tab im cs (k + d + 2) t
  | 0, t, h, _, _ => by have := dep_pos t; omega
  | d + 1, t, h, w, z => by
    have ih := meas_all M A hc k d
    have part : ∀ l : List TL, depL l ≤ d → WfL cs l → sizeL l ≤ 100 → ∀ t ∈ l, MeasOk tab im cs (k + d + 2) t := by
      intro l
      induction l with
      | nil => intro _ _ _ t ht; cases ht
      | cons a r ihr =>
        intro h1 h2 h3 t ht
        have h1' : dep a ≤ d ∧ depL r ≤ d := by simp only [depL] at h1; omega
        have h3' : size a ≤ 100 ∧ sizeL r ≤ 100 := by simp only [sizeL] at h3; omega
        rcases List.mem_cons.mp ht with e | e
        · subst e; exact ih _ h1'.1 h2.1 h3'.1
        · exact ihr h1'.2 h2.2 h3'.2 t e
    cases t with
    | lt c => exact meas_lt M A w (k + d)
    | on t => exact meas_on M (ih t (by simp only [dep] at h; omega) w (by simp only [size] at z; omega))
    | fr t => exact meas_fr M (ih t (by simp only [dep] at h; omega) w (by simp only [size] at z; omega))
    | row l =>
      obtain ⟨w1, w2, w3, w4⟩ := w
      have z : sizeL l ≤ 100 := by simpa only [size] using z
      exact meas_row M hc (part l (by simp only [dep] at h; omega) w4 z) w1 w2 w3 z
    | mix l =>
      obtain ⟨w1, w2, w4⟩ := w
      have z : sizeL l + 1 ≤ 100 := by simpa only [size] using z
      exact meas_mix M hc (part l (by simp only [dep] at h; omega) w4 (by omega)) w1 w2 z
/-- is_timeline_value, want_timeline: yes -/
theorem x_timeline {i : Nat} (M : MeasAt tab i4 i2 im i5 i3) (A : Alpha cs) (hc : cs.length ≤ 8) (h : tab i = some ⟨1, 2, B_is_timeline_value im⟩) {t : TL} (w : Wf cs t) (z : size t ≤ 100) (hd : dep t ≤ 16) (st : Sto) :
    ∃ st', evF tab (k + dep t + 3) i [enc t] st = some (.bl true, st') ∧ Ex st st' := by
  obtain ⟨l, kvs, st', e, x, hl, hk, ki⟩ := meas_all M A (by omega) k (dep t) t (Nat.le_refl _) w z 16 st (by omega)
  refine ⟨st', ?_, x⟩
  have hn := keys_len ki
  have hz : (size t : Int) ≤ 100 := by omega
  have hk8 : (kvs.length : Int) ≤ 8 := by omega
  rw [run_fn h rfl]
  have el : op1 .len (.val (.ref l)) st' = some (.val (.int kvs.length), st') := by simp [op1, hk, vI, vD]
  simp [B_is_timeline_value, exB, exS, evW, evA, permute, evs, vD, e, opsN, opsX, opsI, hz, el, hk8, retOf]
theorem x_want_timeline {i j : Nat} (M : MeasAt tab i4 i2 im i5 i3) (A : Alpha cs) (hc : cs.length ≤ 8) (h : tab i = some ⟨1, 2, B_is_timeline_value im⟩) (hj : tab j = some ⟨1, 1, B_want_timeline i⟩) {t : TL} (w : Wf cs t) (z : size t ≤ 100) (hd : dep t ≤ 16) (st : Sto) :
    ∃ st', evF tab (k + dep t + 4) j [enc t] st = some (.non, st') ∧ Ex st st' := by
  obtain ⟨st', e, x⟩ := x_timeline (k := k) M A hc h w z hd st
  refine ⟨st', ?_, x⟩
  rw [run_fn hj rfl]
  simp [B_want_timeline, exB, exS, evW, evA, permute, evs, vD, e, opsI, retOf]
end
end Px

end

section
set_option maxHeartbeats 2000000
/-! Px6: steps, parts, addresses, paths, letters. -/
namespace Px
open Nx
open PySem (PyData Str sizeLine)

/-! values that can be compared -/
theorem mapM_all {f : D → Option PyData} : ∀ {ds : List D} {ps : List PyData}, ds.mapM f = some ps → ∀ d ∈ ds, ∃ p, f d = some p
  | [], ps, h, d, hd => by cases hd
  | a :: r, ps, h, d, hd => by
    simp only [List.mapM_cons, Option.bind_eq_bind, Option.bind_eq_some_iff, Option.pure_def, Option.some.injEq] at h
    obtain ⟨p, h1, q, h2, rfl⟩ := h
    rcases List.mem_cons.mp hd with e | e
    · subst e; exact ⟨p, h1⟩
    · exact mapM_all h2 d e
theorem mapM_of {f : D → Option PyData} : ∀ {ds : List D}, (∀ d ∈ ds, ∃ p, f d = some p) → ∃ ps, ds.mapM f = some ps ∧ ps.length = ds.length
  | [], _ => ⟨[], by simp, rfl⟩
  | a :: r, h => by
    obtain ⟨p, h1⟩ := h a (by simp)
    obtain ⟨ps, h2, h3⟩ := mapM_of (ds := r) fun d hd => h d (by simp [hd])
    exact ⟨p :: ps, by simp [h1, h2], by simp [h3]⟩
theorem mapM_len {f : D → Option PyData} : ∀ {ds : List D} {ps : List PyData}, ds.mapM f = some ps → ps.length = ds.length
  | [], ps, h => by simp at h; subst h; rfl
  | a :: r, ps, h => by
    simp only [List.mapM_cons, Option.bind_eq_bind, Option.bind_eq_some_iff, Option.pure_def, Option.some.injEq] at h
    obtain ⟨p, h1, q, h2, rfl⟩ := h
    simp [mapM_len h2]
theorem mapM_imp {f g : D → Option PyData} (h : ∀ d p, f d = some p → g d = some p) : ∀ {ds : List D} {ps : List PyData}, ds.mapM f = some ps → ds.mapM g = some ps
  | [], ps, e => by simpa using e
  | a :: r, ps, e => by
    simp only [List.mapM_cons, Option.bind_eq_bind, Option.bind_eq_some_iff, Option.pure_def, Option.some.injEq] at e ⊢
    obtain ⟨p, h1, q, h2, rfl⟩ := e
    exact ⟨p, h _ _ h1, q, mapM_imp h h2, rfl⟩
theorem py_ex {st st' : Sto} (x : Ex st st') : ∀ (n : Nat) (d : D) (p : PyData), toPy st n d = some p → toPy st' n d = some p
  | 0, d, p, h => by cases d <;> simpa [toPy] using h
  | n + 1, d, p, h => by
    cases d with
    | tup ds =>
      simp only [toPy, Option.map_eq_some_iff] at h ⊢
      obtain ⟨ps, h1, h2⟩ := h
      exact ⟨ps, mapM_imp (fun d p => py_ex x n d p) h1, h2⟩
    | lis ds =>
      simp only [toPy, Option.map_eq_some_iff] at h ⊢
      obtain ⟨ps, h1, h2⟩ := h
      exact ⟨ps, mapM_imp (fun d p => py_ex x n d p) h1, h2⟩
    | ref l =>
      simp only [toPy] at h ⊢
      cases q : st[l]? with
      | none => rw [q] at h; cases h
      | some o =>
        rw [q] at h
        rw [x l o q]
        cases o with
        | dct kvs => cases h
        | lst ds =>
          simp only [Option.map_eq_some_iff] at h ⊢
          obtain ⟨ps, h1, h2⟩ := h
          exact ⟨ps, mapM_imp (fun d p => py_ex x n d p) h1, h2⟩
    | _ => simpa [toPy] using h
theorem py_up {st : Sto} : ∀ (n : Nat) (d : D) (p : PyData), toPy st n d = some p → toPy st (n + 1) d = some p
  | 0, d, p, h => by cases d <;> simp [toPy] at h ⊢ <;> exact h
  | n + 1, d, p, h => by
    cases d with
    | tup ds =>
      rw [toPy, Option.map_eq_some_iff] at h ⊢
      obtain ⟨ps, h1, h2⟩ := h
      exact ⟨ps, mapM_imp (fun d p => py_up n d p) h1, h2⟩
    | lis ds =>
      rw [toPy, Option.map_eq_some_iff] at h ⊢
      obtain ⟨ps, h1, h2⟩ := h
      exact ⟨ps, mapM_imp (fun d p => py_up n d p) h1, h2⟩
    | ref l =>
      rw [toPy] at h ⊢
      cases q : st[l]? with
      | none => rw [q] at h; cases h
      | some o =>
        rw [q] at h
        cases o with
        | dct kvs => cases h
        | lst ds =>
          simp only [Option.map_eq_some_iff] at h ⊢
          obtain ⟨ps, h1, h2⟩ := h
          exact ⟨ps, mapM_imp (fun d p => py_up n d p) h1, h2⟩
    | _ => simpa [toPy] using h
theorem py_le {st : Sto} {n m : Nat} {d : D} {p : PyData} (h : toPy st n d = some p) (hl : n ≤ m) : toPy st m d = some p := by
  induction hl with
  | refl => exact h
  | step _ ih => exact py_up _ _ _ ih
/-- a value that the law looks at -/
def Py (st : Sto) (n : Nat) (v : D) : Prop := ∃ p, toPy st n v = some p
theorem Py.ex {st st' : Sto} {n : Nat} {v : D} (h : Py st n v) (x : Ex st st') : Py st' n v := h.elim fun p e => ⟨p, py_ex x n v p e⟩
theorem Py.up {st : Sto} {n m : Nat} {v : D} (h : Py st n v) (hl : n ≤ m) : Py st m v := h.elim fun p e => ⟨p, py_le e hl⟩
theorem Py.ty {st : Sto} {n : Nat} {v : D} (h : Py st n v) : TyOk st v := fun l e => by
  subst e
  obtain ⟨p, h⟩ := h
  cases n with
  | zero => simp [toPy] at h
  | succ n =>
    rw [toPy] at h
    cases q : st[l]? with
    | none => rw [q] at h; cases h
    | some o => rfl
theorem Py.item {st : Sto} {n : Nat} {ds : List D} (h : Py st (n + 1) (.tup ds)) : ∀ d ∈ ds, Py st n d := fun d hd => by
  obtain ⟨p, h⟩ := h
  rw [toPy, Option.map_eq_some_iff] at h
  obtain ⟨ps, h1, _⟩ := h
  exact mapM_all h1 d hd
theorem Py.tup {st : Sto} {n : Nat} {ds : List D} (h : ∀ d ∈ ds, Py st n d) : Py st (n + 1) (.tup ds) := by
  obtain ⟨ps, h1, _⟩ := mapM_of h
  exact ⟨.tuple ps, by rw [toPy, h1]; rfl⟩
def isNil : D → Bool
  | .tup [] => true
  | _ => false
theorem eq_nil {st : Sto} {v : D} (h : Py st 60 v) : op2 .eq (.val v) (.val (.tup [])) st = some (.val (.bl (isNil v)), st) := by
  obtain ⟨p, h⟩ := h
  have hn : toPy st 60 (.tup []) = some (.tuple []) := rfl
  have go : ∀ b, PyData.eqv p (.tuple []) = b → op2 .eq (.val v) (.val (.tup [])) st = some (.val (.bl b), st) := by
    intro b e
    cases v <;> simp [op2, eqD, toPyW, h, hn, e, vB, vD]
  cases v with
  | tup ds =>
    rw [toPy, Option.map_eq_some_iff] at h
    obtain ⟨ps, h1, rfl⟩ := h
    have hl := mapM_len h1
    cases ds with
    | nil =>
      cases ps with
      | nil => exact go true rfl
      | cons _ _ => simp at hl
    | cons a r =>
      cases ps with
      | nil => simp at hl
      | cons _ _ => exact go false rfl
  | ref l =>
    rw [toPy] at h
    split at h
    · rw [Option.map_eq_some_iff] at h
      obtain ⟨ps, _, rfl⟩ := h
      exact go false rfl
    · cases h
  | lis ds =>
    rw [toPy, Option.map_eq_some_iff] at h
    obtain ⟨ps, _, rfl⟩ := h
    exact go false rfl
  | non => simp [toPy] at h; subst h; exact go false rfl
  | bl b => simp [toPy] at h; subst h; exact go false rfl
  | int i => simp [toPy] at h; subst h; exact go false rfl
  | str s =>
    simp [toPy] at h
    obtain ⟨_, rfl⟩ := h
    exact go false rfl
end Px

end

section
set_option maxHeartbeats 2000000
/-! Px7: steps, parts, addresses, paths, letters. -/
namespace Px
open Nx
open PySem (PyData Str sizeLine)
def isNode (v : D) : Bool := match v with
  | .tup ds => decide (ds.length ≤ 100) && ds.all fun d => within d 0 1
  | _ => false
def far : Int := 1000000000000000000000000000000
def stepOk : TL → D → Bool
  | .lt _, _ => false
  | .row l, v => within v 0 ((l.length : Int) - 1)
  | .mix _, v => isNode v
  | .on _, v => within v 0 (far - 1)
  | .fr _, v => within v 0 (far - 1)
def innerT : TL → D → Option TL
  | .on t, _ => some t
  | .fr t, _ => some t
  | .row l, .int i => l[i.toNat]?
  | .mix l, .tup ds => l[ds.length % l.length]?
  | _, _ => none
theorem depL_get : ∀ {l : List TL} {i : Nat} {t : TL}, l[i]? = some t → dep t ≤ depL l
  | [], i, t, h => by simp at h
  | a :: r, 0, t, h => by simp at h; subst h; simp only [depL]; omega
  | a :: r, i + 1, t, h => by
    have := depL_get (l := r) (i := i) (by simpa using h)
    simp only [depL]
    omega
theorem inner_ok {cs : List Nat} {t : TL} {v : D} (w : Wf cs t) (h : stepOk t v = true) : ∃ u, innerT t v = some u ∧ dep u < dep t ∧ Wf cs u := by
  cases t with
  | lt c => cases h
  | on t => exact ⟨t, rfl, by simp [dep], w⟩
  | fr t => exact ⟨t, rfl, by simp [dep], w⟩
  | row l =>
    obtain ⟨w1, w2, w3, w4⟩ := w
    cases v <;> simp [stepOk, within] at h
    rename_i i
    have hi : i.toNat < l.length := by omega
    refine ⟨l[i.toNat], by simp [innerT, hi], ?_, wfL_mem w4 _ (List.getElem_mem hi)⟩
    have := depL_get (l := l) (List.getElem?_eq_getElem hi)
    simp only [dep]
    omega
  | mix l =>
    obtain ⟨w1, w2, w4⟩ := w
    cases v <;> simp [stepOk, isNode] at h
    rename_i ds
    have hi : ds.length % l.length < l.length := Nat.mod_lt _ (by omega)
    refine ⟨l[ds.length % l.length], by simp [innerT, hi], ?_, wfL_mem w4 _ (List.getElem_mem hi)⟩
    have := depL_get (l := l) (List.getElem?_eq_getElem hi)
    simp only [dep]
    omega
theorem encL_get {l : List TL} {i : Nat} {t : TL} (h : l[i]? = some t) : (encL l)[i]? = some (enc t) := by
  rw [encL_map, List.getElem?_map, h]
  rfl
structure StepAt (tab : Nat → Option Fn) (i0 i1 i9 i10 i11 : Nat) : Prop where
  t0 : tab i0 = some ⟨1, 1, B_is_integer⟩
  t1 : tab i1 = some ⟨3, 3, B_is_within i0⟩
  t9 : tab i9 = some ⟨1, 2, B_is_node i1⟩
  t10 : tab i10 = some ⟨2, 4, B_is_step i1 i9⟩
  t11 : tab i11 = some ⟨2, 4, B_inner⟩
section
variable {tab : Nat → Option Fn} {i0 i1 i9 i10 i11 : Nat} {k : Nat} {st : Sto} {v : D} {cs : List Nat}
theorem x_is_node (M : StepAt tab i0 i1 i9 i10 i11) (h : Py st 60 v) : evF tab (k + 3) i9 [v] st = some (.bl (isNode v), st) := by
  rw [run_fn M.t9 rfl]
  have e : evW (evF tab (k + 2)) (.and (.p1 (.isT "tuple") (.v 0)) (.and (.p2 .le (.p1 .len (.v 0)) (.k (.int 100))) (.p1 .all (.comp 0 [(.v 0)] (.n 1) (.k (.bl true)) (.call i1 [(.v 1), (.k (.int 0)), (.k (.int 1))] [0, 1, 2]))))) [some v, none] st = some (.val (.bl (isU v && isNode v)), st) := by
    refine w_and (w_p1 (w_v rfl) (op_tuple h.ty)) fun hi => ?_
    cases v <;> simp [isU] at hi
    rename_i ds
    have q : ((ds.length : Int) ≤ 100) ↔ ds.length ≤ 100 := by omega
    refine w_and (x := decide (ds.length ≤ 100)) (by simp [evW, vD, evs, opsI, q]) fun hl => ?_
    have hl : ds.length ≤ 100 := of_decide_eq_true hl
    refine w_p1 (w_comp (f := fun d => .bl (within d 0 1)) (i_tup (w_v rfl)) guard_nil (fun d hd => ?_) (by rw [PySem.sizeLine_eq]; omega)) all_op
    rw [turn_1 (w := .val (.bl (within d 0 1))) (s2 := st)]
    · rfl
    · have e1 : evF tab (k + 2) i1 [d, .int 0, .int 1] st = some (.bl (within d 0 1), st) := x_is_within M.t0 M.t1 (h.item d hd).ty
      simp [evW, evA, permute, evs, vD, e1]
  have e2 : (isU v && isNode v) = isNode v := by cases v <;> rfl
  rw [e2] at e
  simp [B_is_node, exB, exS, e, evs, retOf]
theorem x_is_step (M : StepAt tab i0 i1 i9 i10 i11) {t : TL} (ht : isLt t = false) (h : Py st 60 v) : evF tab (k + 4) i10 [enc t, v] st = some (.bl (stepOk t v), st) := by
  rw [run_fn M.t10 rfl]
  have w : ∀ a b, evF tab (k + 3) i1 [v, .int a, .int b] st = some (.bl (within v a b), st) := fun a b => x_is_within (k := k + 1) M.t0 M.t1 h.ty
  have n : evF tab (k + 3) i9 [v] st = some (.bl (isNode v), st) := x_is_node M h
  cases t with
  | lt c => cases ht
  | row l =>
    have hl : ((encL l).length : Int) = (l.length : Int) := by rw [encL_map, List.length_map]
    simp [B_is_step, enc, exB, exS, evW, evA, permute, evs, vD, bindTg, o_eqS, opsI, w, hl, retOf, stepOk]
  | mix l => simp [B_is_step, enc, exB, exS, evW, evA, permute, evs, vD, bindTg, o_eqS, p10', opsI, n, retOf, stepOk]
  | on t => simp [B_is_step, enc, exB, exS, evW, evA, permute, evs, vD, bindTg, o_eqS, p4', p6', opsI, w, retOf, stepOk, far]
  | fr t => simp [B_is_step, enc, exB, exS, evW, evA, permute, evs, vD, bindTg, o_eqS, p7', p9', opsI, w, retOf, stepOk, far]
theorem o_mod {i j : Int} (h : 0 < j) : op2 .mod (.val (.int i)) (.val (.int j)) st = some (.val (.int (i % j)), st) := by
  simp [op2, h, vI, vD]
theorem x_inner (M : StepAt tab i0 i1 i9 i10 i11) {t u : TL} (hs : stepOk t v = true) (hi : innerT t v = some u) : evF tab (k + 1) i11 [enc t, v] st = some (enc u, st) := by
  rw [run_fn M.t11 rfl]
  cases t with
  | lt c => cases hs
  | on t =>
    simp only [innerT, Option.some.injEq] at hi
    subst hi
    simp [B_inner, enc, exB, exS, evW, evA, evs, vD, bindTg, o_in2, PySem.sizeLine_eq, retOf]
  | fr t =>
    simp only [innerT, Option.some.injEq] at hi
    subst hi
    simp [B_inner, enc, exB, exS, evW, evA, evs, vD, bindTg, o_in2, PySem.sizeLine_eq, q8, retOf]
  | row l =>
    cases v <;> simp [stepOk, within] at hs
    rename_i i
    simp only [innerT] at hi
    have e : op2 .idx (.val (.tup (encL l))) (.val (.int i)) st = some (.val (enc u), st) := o_idx (at_int hs.1 (encL_get hi))
    simp [B_inner, enc, exB, exS, evW, evA, evs, vD, bindTg, o_in2, PySem.sizeLine_eq, q1, q2, q4, q7, o_eqS, e, retOf]
  | mix l =>
    cases v <;> simp [stepOk, isNode] at hs
    rename_i ds
    simp only [innerT] at hi
    have hl0 : 0 < l.length := by
      cases l with
      | nil => simp at hi
      | cons a r => simp
    have hl : (encL l).length = l.length := by rw [encL_map, List.length_map]
    have m : op2 .mod (.val (.int (ds.length : Int))) (.val (.int ((encL l).length : Int))) st = some (.val (.int ((ds.length % l.length : Nat) : Int)), st) := by
      rw [hl, o_mod (by omega)]
      simp
    have e : op2 .idx (.val (.tup (encL l))) (.val (.int ((ds.length % l.length : Nat) : Int))) st = some (.val (enc u), st) := o_idx (at_nat (encL_get hi))
    simp only [B_inner, enc]
    simp [exB, exS, evW, evA, evs, vD, bindTg, o_in2, PySem.sizeLine_eq, q3, q5, q6, q9, q11, q12, o_eqS, p10', opsI, retOf]
    simp only [m]
    rw [show ((ds.length % l.length : Nat) : Int) = (ds.length : Int) % (l.length : Int) from by simp] at e
    simp [e, evs, retOf]
/-- an address, by fuel -/
def isAddr : Nat → TL → D → Bool
  | 0, _, _ => false
  | n + 1, t, v => if isLt t then isNil v else match v with
    | .tup [s, r] => stepOk t s && (match innerT t s with
      | some u => isAddr n u r
      | none => false)
    | _ => false
def isPath : TL → List D → Bool
  | _, [] => true
  | t, s :: r => !isLt t && (stepOk t s && (match innerT t s with
    | some u => isPath u r
    | none => false))
theorem isS_enc (t : TL) : isS (enc t) = isLt t := by cases t <;> rfl
theorem x_is_address {i2 i13 : Nat} (M : StepAt tab i0 i1 i9 i10 i11) (t2 : tab i2 = some ⟨2, 2, B_is_tuple⟩) (h : tab i13 = some ⟨2, 2, B_is_address_value i2 i10 i13 i11⟩) :
    ∀ (n : Nat) (t : TL) (v : D) (m : Nat), dep t ≤ n → Wf cs t → Py st m v → m ≤ 60 → evF tab (k + n + 4) i13 [enc t, v] st = some (.bl (isAddr n t v), st)
  | 0, t, v, m, hd, _, _, _ => by have := dep_pos t; omega
  | n + 1, t, v, m, hd, w, hv, hm => by
    have hv60 := hv.up hm
    rw [run_fn h rfl]
    have eS : op1 (.isT "str") (.val (enc t)) st = some (.val (.bl (isLt t)), st) := by rw [op_str (tyOk_enc t), isS_enc]
    cases hlt : isLt t with
    | true =>
      have e1 := eq_nil hv60
      have e2 : op1 (.isT "tuple") (.val v) st = some (.val (.bl (isU v)), st) := op_tuple hv60.ty
      rw [hlt] at eS
      cases hn : isNil v with
      | false =>
        rw [hn] at e1
        simp [B_is_address_value, exB, exS, evW, evA, evs, vD, eS, e1, retOf, isAddr, hlt, hn]
      | true =>
        have hu : isU v = true := by cases v <;> simp [isNil] at hn ⊢; rfl
        rw [hn] at e1
        rw [hu] at e2
        simp [B_is_address_value, exB, exS, evW, evA, evs, vD, eS, e1, e2, retOf, isAddr, hlt, hn]
    | false =>
      rw [hlt] at eS
      have e2 : evF tab (k + (n + 1) + 3) i2 [v, .int 2] st = some (.bl (isTupN v 2), st) := x_is_tuple (k := k + (n + 1) + 2) t2 hv60.ty
      have lv : k + (n + 1) + 3 = k + n + 4 := by omega
      rw [lv] at e2 ⊢
      cases hu : isTupN v 2 with
      | false =>
        rw [hu] at e2
        have hf : isAddr (n + 1) t v = false := by
          unfold isAddr
          rw [hlt]
          cases v with
          | tup ds => match ds with
            | [] => rfl
            | [_] => rfl
            | [_, _] => simp [isTupN] at hu
            | _ :: _ :: _ :: _ => rfl
          | _ => rfl
        simp [B_is_address_value, exB, exS, evW, evA, permute, evs, vD, eS, e2, opsI, retOf, hf]
      | true =>
        rw [hu] at e2
        cases v <;> simp [isTupN] at hu
        rename_i ds
        match ds, hu with
        | [s, r], _ =>
          have hs60 : Py st 59 s := by
            have q : Py st 60 (.tup [s, r]) := hv60
            exact q.item s (by simp)
          have e3 : evF tab (k + n + 4) i10 [enc t, s] st = some (.bl (stepOk t s), st) := x_is_step (k := k + n) M hlt (hs60.up (by omega))
          cases hst : stepOk t s with
          | false =>
            rw [hst] at e3
            simp [B_is_address_value, exB, exS, evW, evA, permute, evs, vD, eS, e2, e3, opsI, opsX, retOf, isAddr, hlt, hst]
          | true =>
            rw [hst] at e3
            obtain ⟨u, hi, hdu, wu⟩ := inner_ok w hst
            have e4 : evF tab (k + n + 4) i11 [enc t, s] st = some (enc u, st) := x_inner (k := k + n + 3) M hst hi
            obtain ⟨m', rfl⟩ : ∃ m', m = m' + 1 := by
              cases m with
              | zero => obtain ⟨p, hp⟩ := hv; simp [toPy] at hp
              | succ m' => exact ⟨m', rfl⟩
            have e5 := x_is_address M t2 h n u r m' (by omega) wu (hv.item r (by simp)) (by omega)
            simp [B_is_address_value, exB, exS, evW, evA, permute, evs, vD, eS, e2, e3, e4, e5, opsI, opsX, retOf, isAddr, hlt, hst, hi]
end
end Px

end

section
set_option maxHeartbeats 2000000
/-! Px8: paths, letters; the law's own looks at steps. -/
namespace Px
open Nx
open PySem (PyData Str sizeLine)
def pathT : TL → List D → Option TL
  | t, [] => some t
  | t, s :: r => if (!isLt t && stepOk t s) = true then (match innerT t s with
    | some u => pathT u r
    | none => none) else none
def letterT : Nat → TL → D → Option Nat
  | 0, _, _ => none
  | n + 1, t, v => match t with
    | .lt c => if isNil v = true then some c else none
    | t => match v with
      | .tup [s, r] => if stepOk t s = true then (match innerT t s with
        | some u => letterT n u r
        | none => none) else none
      | _ => none
theorem addr_key {n : Nat} (ih : ∀ u r, isAddr n u r = (letterT n u r).isSome) (t : TL) (v : D) : (match v with
      | .tup [s, r] => stepOk t s && (match innerT t s with
        | some u => isAddr n u r
        | none => false)
      | _ => false) = (match v with
      | .tup [s, r] => if stepOk t s = true then (match innerT t s with
        | some u => letterT n u r
        | none => none) else none
      | _ => none).isSome := by
  split
  · rename_i s r
    show (stepOk t s && _) = (if stepOk t s = true then _ else _ : Option Nat).isSome
    cases stepOk t s with
    | false => rfl
    | true =>
      rw [if_pos rfl, Bool.true_and]
      cases innerT t s with
      | none => rfl
      | some u => exact ih u r
  · rfl
theorem addr_letter : ∀ (n : Nat) (t : TL) (v : D), isAddr n t v = (letterT n t v).isSome
  | 0, t, v => rfl
  | n + 1, t, v => by
    have ih := addr_letter n
    cases t with
    | lt c =>
      simp only [isAddr, letterT, isLt, if_true]
      cases isNil v <;> rfl
    | row l => exact addr_key ih (.row l) v
    | mix l => exact addr_key ih (.mix l) v
    | on u => exact addr_key ih (.on u) v
    | fr u => exact addr_key ih (.fr u) v
theorem letter_mem {cs : List Nat} : ∀ (n : Nat) (t : TL) (v : D) (c : Nat), Wf cs t → letterT n t v = some c → c ∈ cs
  | 0, t, v, c, _, h => by cases h
  | n + 1, t, v, c, w, h => by
    cases t with
    | lt c' =>
      simp only [letterT] at h
      split at h
      · cases h; exact w
      · cases h
    | _ =>
      simp only [letterT] at h
      split at h
      · rename_i s r
        split at h
        · rename_i hs
          obtain ⟨u, hi, _, wu⟩ := inner_ok w hs
          rw [hi] at h
          exact letter_mem n u r c wu h
        · cases h
      · cases h
section
variable {tab : Nat → Option Fn} {i0 i1 i9 i10 i11 : Nat} {k : Nat} {st : Sto} {v : D} {cs : List Nat}
theorem path_loop (M : StepAt tab i0 i1 i9 i10 i11) : ∀ (ds : List D) (t : TL) (o2 : Option D), Wf cs t → (∀ d ∈ ds, Py st 60 d) →
    ∃ ρ', forLoop (fun d r s => match bindTg (.n 2) d r with
        | some r1 => exB (evF tab (k + 4)) [.ite (.or (.p1 (.isT "str") (.v 0)) (.p1 .not (.call i10 [(.v 0), (.v 2)] [0, 1]))) [.ret (.k (.bl false))] [], .asg 0 (.call i11 [(.v 0), (.v 2)] [0, 1])] r1 s
        | none => none) (guardB []) ds [some (enc t), some v, o2] st = some (if (pathT t ds).isSome = true then .nx else .rt (.bl false), ρ', st)
  | [], t, o2, _, _ => ⟨[some (enc t), some v, o2], by simp [forLoop, guard_nil, pathT]⟩
  | s :: r, t, o2, w, h => by
    have eS : op1 (.isT "str") (.val (enc t)) st = some (.val (.bl (isLt t)), st) := by rw [op_str (tyOk_enc t), isS_enc]
    cases hlt : isLt t with
    | true =>
      rw [hlt] at eS
      exact ⟨[some (enc t), some v, some s], by simp [forLoop, guard_nil, bindTg, exB, exS, evW, evA, permute, evs, vD, eS, pathT, hlt]⟩
    | false =>
      rw [hlt] at eS
      have e3 : evF tab (k + 4) i10 [enc t, s] st = some (.bl (stepOk t s), st) := x_is_step M hlt (h s (by simp))
      cases hst : stepOk t s with
      | false =>
        rw [hst] at e3
        exact ⟨[some (enc t), some v, some s], by simp [forLoop, guard_nil, bindTg, exB, exS, evW, evA, permute, evs, vD, opsI, eS, e3, pathT, hlt, hst]⟩
      | true =>
        rw [hst] at e3
        obtain ⟨u, hi, hdu, wu⟩ := inner_ok w hst
        have e4 : evF tab (k + 4) i11 [enc t, s] st = some (enc u, st) := x_inner (k := k + 3) M hst hi
        obtain ⟨ρ', ih⟩ := path_loop M r u (some s) wu fun d hd => h d (by simp [hd])
        refine ⟨ρ', ?_⟩
        have p : pathT t (s :: r) = pathT u r := by simp [pathT, hlt, hst, hi]
        rw [p, ← ih]
        rw [forLoop, guard_nil, if_pos rfl]
        simp [bindTg, exB, exS, evW, evA, permute, evs, vD, opsI, eS, e3, e4]
theorem x_is_path {i : Nat} (M : StepAt tab i0 i1 i9 i10 i11) (h : tab i = some ⟨2, 3, B_is_path_value i10 i11⟩) {t : TL} (w : Wf cs t) (hv : Py st 60 v) :
    evF tab (k + 5) i [enc t, v] st = some (.bl (match v with | .tup ds => (pathT t ds).isSome | _ => false), st) := by
  have eU := op_tuple hv.ty
  rw [run_fn h rfl]
  cases v with
  | tup ds =>
    obtain ⟨ρ', e⟩ := path_loop (k := k) (v := .tup ds) M ds t none w fun d hd => (hv.item d hd).up (by omega)
    have a9 := s_for0 (T := evF tab (k + 4)) (a := .v 1) (tg := .n 2) (ρ := [some (enc t), some (.tup ds), none]) (st := st) (ds := ds) (b := [.ite (.or (.p1 (.isT "str") (.v 0)) (.p1 .not (.call i10 [(.v 0), (.v 2)] [0, 1]))) [.ret (.k (.bl false))] [], .asg 0 (.call i11 [(.v 0), (.v 2)] [0, 1])]) (w_v rfl)
    have e := a9.trans e
    show retOf (exB (evF tab (k + 4)) (B_is_path_value i10 i11) [some (enc t), some (.tup ds), none] st) = _
    unfold B_is_path_value
    rw [b_nx (s_iteF (st1 := st) (by simp [evW, evs, vD, eU, opsI, isU]))]
    rw [exB, e]
    cases hp : (pathT t ds).isSome with
    | true => simp [exB, exS, evs, retOf, hp]
    | false => simp [exB, exS, evs, retOf, hp]
  | _ => simp [B_is_path_value, exB, exS, evW, evs, vD, eU, opsI, isU, retOf]
/-- letter_by -/
theorem letter_loop (M : StepAt tab i0 i1 i9 i10 i11) : ∀ (n : Nat) (t : TL) (v : D) (c m : Nat), Wf cs t → letterT n t v = some c → n ≤ m →
    ∃ ρ', whLoop (tsW (evF tab (k + 1)) (.p1 .not (.p1 (.isT "str") (.v 0)))) (fun r s => exB (evF tab (k + 1)) [.asgP [0, 1] [(.call i11 [(.v 0), (.p2 .idx (.v 1) (.k (.int 0)))] [0, 1]), (.p2 .idx (.v 1) (.k (.int 1)))]] r s) m [some (enc t), some v] st =
      some (.nx, [some (.str ⟨#[c]⟩), ρ'], st)
  | 0, t, v, c, m, _, h, _ => by cases h
  | n + 1, t, v, c, m, w, h, hm => by
    obtain ⟨m', rfl⟩ : ∃ m', m = m' + 1 := ⟨m - 1, by omega⟩
    have eS : op1 (.isT "str") (.val (enc t)) st = some (.val (.bl (isLt t)), st) := by rw [op_str (tyOk_enc t), isS_enc]
    cases t with
    | lt c' =>
      simp only [letterT] at h
      split at h
      · cases h
        exact ⟨some v, by simp [whLoop, tsW, evW, evs, vD, eS, opsI, isLt]; rfl⟩
      · cases h
    | _ =>
      simp only [letterT] at h
      split at h
      · rename_i s r
        split at h
        · rename_i hs
          obtain ⟨u, hi, _, wu⟩ := inner_ok w hs
          rw [hi] at h
          obtain ⟨ρ', ih⟩ := letter_loop M n u r c m' wu h (by omega)
          have e4 := x_inner (k := k) (st := st) M hs hi
          refine ⟨ρ', ?_⟩
          rw [← ih]
          rw [whLoop]
          simp [tsW, exB, exS, evW, evA, permute, evs, vD, eS, opsI, opsX, isLt, e4]
        · cases h
      · cases h
theorem x_letter_by {i : Nat} (M : StepAt tab i0 i1 i9 i10 i11) (h : tab i = some ⟨2, 2, B_letter_by i11⟩) {n c : Nat} {t : TL} (w : Wf cs t) (hl : letterT n t v = some c) (hn : n ≤ 1000) :
    evF tab (k + 2) i [enc t, v] st = some (.str ⟨#[c]⟩, st) := by
  obtain ⟨ρ', e⟩ := letter_loop (k := k) (st := st) M n t v c rounds w hl (by unfold rounds; omega)
  rw [run_fn h rfl]
  have e := (wh_eq (T := evF tab (k + 1)) (c := .p1 .not (.p1 (.isT "str") (.v 0))) (b := [.asgP [0, 1] [(.call i11 [(.v 0), (.p2 .idx (.v 1) (.k (.int 0)))] [0, 1]), (.p2 .idx (.v 1) (.k (.int 1)))]]) (ρ := [some (enc t), some v]) (st := st)).trans e
  show retOf (exB (evF tab (k + 1)) (B_letter_by i11) [some (enc t), some v] st) = _
  unfold B_letter_by
  rw [b_nx e]
  simp [exB, exS, evW, evs, vD, retOf]
end
end Px

end

section
set_option maxHeartbeats 2000000
/-! Px9: the law's own looks at steps, pieces, letters. -/
namespace Px
open Nx
open PySem (PyData Str sizeLine)
section
variable {tab : Nat → Option Fn} {k : Nat} {st : Sto} {v : D} {cs : List Nat}
theorem o_in01 (i : Int) : op2 .inn (.val (.int i)) (.val (.tup [.int 0, .int 1])) st = some (.val (.bl (within (.int i) 0 1)), st) := by
  have e : (0 == i || 1 == i) = (decide (0 ≤ i) && decide (i ≤ 1)) := by
    rw [Bool.eq_iff_iff]
    simp
    omega
  simp [op2, flatD, eqF, vB, vD, within]
  simpa using e
theorem o_pow30 : op2 .pow (.val (.int 10)) (.val (.int 30)) st = some (.val (.int far), st) := by
  have h : (0 : Int) ≤ 30 ∧ (30 : Int) ≤ 1000000 ∧ (10 : Int).natAbs < 2 ^ 64 := by decide
  simp only [op2]
  rw [if_pos h]
  rfl
theorem law_bit (d : D) (h : TyOk st d) (T : Calls) (a b c e : Option D) : evW T (.and (.p1 (.isT "int") (.v 4)) (.and (.p1 .not (.p1 (.isT "bool") (.v 4))) (.p2 .inn (.v 4) (.tup [(.k (.int 0)), (.k (.int 1))])))) [a, b, c, e, some d] st = some (.val (.bl (within d 0 1)), st) := by
  have e1 := op_int h
  have e2 := op_bool h
  cases d with
  | int i => simp [evW, evA, evs, vD, e1, e2, isI, isB, opsI, PySem.sizeLine_eq, o_in01]
  | bl b => simp [evW, evs, vD, e1, e2, isI, isB, opsI, within]
  | _ => simp [evW, evs, vD, e1, isI, isB, within]
theorem s_retV {T : Calls} {c : C} {ρ : Rho} {st st1 : Sto} {d : D} (h : evW T c ρ st = some (.val d, st1)) : exS T (.ret c) ρ st = some (.rt d, ρ, st1) := by
  simp [exS, h, evs]
theorem s_iteT {T : Calls} {c : C} {a b : List Nx.S} {ρ : Rho} {st st1 : Sto} (h : evW T c ρ st = some (.val (.bl true), st1)) : exS T (.ite c a b) ρ st = exB T a ρ st1 := by
  simp [exS, h, evs]
theorem b_rt {T : Calls} {x : Nx.S} {xs : List Nx.S} {ρ ρ1 : Rho} {st st1 : Sto} {d : D} (h : exS T x ρ st = some (.rt d, ρ1, st1)) : exB T (x :: xs) ρ st = some (.rt d, ρ1, st1) := by
  rw [exB, h]
def upto (v : D) (n : Int) : Bool := match v with
  | .int i => decide (0 ≤ i) && decide (i < n)
  | _ => false
theorem within_upto (v : D) (n : Int) : within v 0 (n - 1) = upto v n := by
  cases v <;> simp only [within, upto]
  rename_i i
  have : (i ≤ n - 1) ↔ (i < n) := by omega
  simp only [this]
/-- the law's look at a step is the same as the program's -/
theorem x_law_is_step {i : Nat} (h : tab i = some ⟨2, 5, B_law_is_step⟩) {t : TL} (ht : isLt t = false) (hv : Py st 60 v) : evF tab (k + 1) i [enc t, v] st = some (.bl (stepOk t v), st) := by
  rw [run_fn h rfl]
  have e1 := op_int hv.ty
  have e2 := op_bool hv.ty
  have e3 := op_tuple hv.ty
  cases t with
  | lt c => cases ht
  | mix l =>
    have e : evW (evF tab k) (.and (.p1 (.isT "tuple") (.v 1)) (.and (.p2 .le (.p1 .len (.v 1)) (.k (.int 100))) (.p1 .all (.comp 0 [(.v 1)] (.n 4) (.k (.bl true)) (.and (.p1 (.isT "int") (.v 4)) (.and (.p1 .not (.p1 (.isT "bool") (.v 4))) (.p2 .inn (.v 4) (.tup [(.k (.int 0)), (.k (.int 1))])))))))) [some (enc (.mix l)), some v, some (.str "mix"), some (.tup (encL l)), none] st = some (.val (.bl (isU v && isNode v)), st) := by
      refine w_and (w_p1 (w_v rfl) e3) fun hi => ?_
      cases v <;> simp [isU] at hi
      rename_i ds
      have q : ((ds.length : Int) ≤ 100) ↔ ds.length ≤ 100 := by omega
      refine w_and (x := decide (ds.length ≤ 100)) (by simp [evW, vD, evs, opsI, q]) fun hl => ?_
      have hl : ds.length ≤ 100 := of_decide_eq_true hl
      refine w_p1 (w_comp (f := fun d => .bl (within d 0 1)) (i_tup (w_v rfl)) guard_nil (fun d hd => ?_) (by rw [PySem.sizeLine_eq]; omega)) all_op
      rw [turn_1 (w := .val (.bl (within d 0 1))) (s2 := st)]
      · rfl
      · exact law_bit d (hv.item d hd).ty _ _ _ _ _
    have e5 : (isU v && isNode v) = isNode v := by cases v <;> rfl
    rw [e5] at e
    have a0 : exS (evF tab k) (.asgT [2, 3] (.v 0)) [some (enc (.mix l)), some v, none, none, none] st = some (.nx, [some (enc (.mix l)), some v, some (.str "mix"), some (.tup (encL l)), none], st) := by
      simp [exS, evW, enc, vD, bindTg]
    show retOf (exB (evF tab k) B_law_is_step [some (enc (.mix l)), some v, none, none, none] st) = _
    unfold B_law_is_step
    rw [b_nx a0, b_rt ((s_iteT (st1 := st) (by simp [evW, evs, vD, o_eqS])).trans (b_rt (s_retV e)))]
    rfl
  | row l =>
    have hl : ((encL l).length : Int) = (l.length : Int) := by rw [encL_map, List.length_map]
    have e5 : stepOk (.row l) v = upto v l.length := within_upto _ _
    rw [e5]
    cases v with
    | int i =>
      by_cases q : 0 ≤ i <;> simp [B_law_is_step, enc, exB, exS, evW, evs, vD, vB, bindTg, o_eqS, p3', opsI, e1, e2, isI, isB, hl, q, upto, retOf]
    | _ => simp [B_law_is_step, enc, exB, exS, evW, evs, vD, vB, bindTg, o_eqS, p3', opsI, e1, e2, isI, isB, upto, retOf]
  | on t =>
    have e5 : stepOk (.on t) v = upto v far := within_upto _ _
    rw [e5]
    cases v with
    | int i =>
      by_cases q : 0 ≤ i <;> simp [B_law_is_step, enc, exB, exS, evW, evs, vD, vB, bindTg, o_eqS, p4', p6', opsI, e1, e2, isI, isB, o_pow30, q, upto, retOf]
    | _ => simp [B_law_is_step, enc, exB, exS, evW, evs, vD, vB, bindTg, o_eqS, p4', p6', opsI, e1, e2, isI, isB, upto, retOf]
  | fr t =>
    have e5 : stepOk (.fr t) v = upto v far := within_upto _ _
    rw [e5]
    cases v with
    | int i =>
      by_cases q : 0 ≤ i <;> simp [B_law_is_step, enc, exB, exS, evW, evs, vD, vB, bindTg, o_eqS, p7', p9', opsI, e1, e2, isI, isB, o_pow30, q, upto, retOf]
    | _ => simp [B_law_is_step, enc, exB, exS, evW, evs, vD, vB, bindTg, o_eqS, p7', p9', opsI, e1, e2, isI, isB, upto, retOf]
/-- the law's part is the same -/
theorem x_law_part {i : Nat} (h : tab i = some ⟨2, 4, B_law_part⟩) {t u : TL} (hs : stepOk t v = true) (hi : innerT t v = some u) : evF tab (k + 1) i [enc t, v] st = some (enc u, st) := by
  rw [run_fn h rfl]
  cases t with
  | lt c => cases hs
  | on t =>
    simp only [innerT, Option.some.injEq] at hi
    subst hi
    simp [B_law_part, enc, exB, exS, evW, evA, evs, vD, bindTg, o_in2, PySem.sizeLine_eq, retOf]
  | fr t =>
    simp only [innerT, Option.some.injEq] at hi
    subst hi
    simp [B_law_part, enc, exB, exS, evW, evA, evs, vD, bindTg, o_in2, PySem.sizeLine_eq, q8, retOf]
  | row l =>
    cases v <;> simp [stepOk, within] at hs
    rename_i i
    simp only [innerT] at hi
    have e : op2 .idx (.val (.tup (encL l))) (.val (.int i)) st = some (.val (enc u), st) := o_idx (at_int hs.1 (encL_get hi))
    simp [B_law_part, enc, exB, exS, evW, evA, evs, vD, bindTg, o_in2, PySem.sizeLine_eq, q1, q2, q4, q7, o_eqS, e, retOf]
  | mix l =>
    cases v <;> simp [stepOk, isNode] at hs
    rename_i ds
    simp only [innerT] at hi
    have hl0 : 0 < l.length := by
      cases l with
      | nil => simp at hi
      | cons a r => simp
    have hl : (encL l).length = l.length := by rw [encL_map, List.length_map]
    have m : op2 .mod (.val (.int (ds.length : Int))) (.val (.int ((encL l).length : Int))) st = some (.val (.int ((ds.length % l.length : Nat) : Int)), st) := by
      rw [hl, o_mod (by omega)]
      simp
    have e : op2 .idx (.val (.tup (encL l))) (.val (.int ((ds.length % l.length : Nat) : Int))) st = some (.val (enc u), st) := o_idx (at_nat (encL_get hi))
    simp only [B_law_part, enc]
    simp [exB, exS, evW, evA, evs, vD, bindTg, o_in2, PySem.sizeLine_eq, q3, q5, q6, q9, q11, q12, o_eqS, p10', opsI, retOf]
    simp only [m]
    rw [show ((ds.length % l.length : Nat) : Int) = (ds.length : Int) % (l.length : Int) from by simp] at e
    simp [e, evs, retOf]
theorem piece_loop {i32 i33 : Nat} (h32 : tab i32 = some ⟨2, 5, B_law_is_step⟩) (h33 : tab i33 = some ⟨2, 4, B_law_part⟩) : ∀ (ds : List D) (t : TL) (o2 : Option D), Wf cs t → (∀ d ∈ ds, Py st 60 d) →
    ∃ ρ', forLoop (fun d r s => match bindTg (.n 2) d r with
        | some r1 => exB (evF tab (k + 1)) [.ite (.or (.p1 (.isT "str") (.v 0)) (.p1 .not (.call i32 [(.v 0), (.v 2)] [0, 1]))) [.ret (.k .non)] [], .asg 0 (.call i33 [(.v 0), (.v 2)] [0, 1])] r1 s
        | none => none) (guardB []) ds [some (enc t), some v, o2] st = some (match pathT t ds with | some _ => .nx | none => .rt .non, match pathT t ds with | some u => [some (enc u), some v, ρ'] | none => [some (enc t), some v, ρ'], st) ∨
      ∃ ρ2, pathT t ds = none ∧ forLoop (fun d r s => match bindTg (.n 2) d r with
        | some r1 => exB (evF tab (k + 1)) [.ite (.or (.p1 (.isT "str") (.v 0)) (.p1 .not (.call i32 [(.v 0), (.v 2)] [0, 1]))) [.ret (.k .non)] [], .asg 0 (.call i33 [(.v 0), (.v 2)] [0, 1])] r1 s
        | none => none) (guardB []) ds [some (enc t), some v, o2] st = some (.rt .non, ρ2, st)
  | [], t, o2, _, _ => ⟨o2, .inl (by simp [forLoop, guard_nil, pathT])⟩
  | s :: r, t, o2, w, h => by
    have eS : op1 (.isT "str") (.val (enc t)) st = some (.val (.bl (isLt t)), st) := by rw [op_str (tyOk_enc t), isS_enc]
    cases hlt : isLt t with
    | true =>
      rw [hlt] at eS
      exact ⟨none, .inr ⟨[some (enc t), some v, some s], by simp [pathT, hlt], by simp [forLoop, guard_nil, bindTg, exB, exS, evW, evA, permute, evs, vD, eS]⟩⟩
    | false =>
      rw [hlt] at eS
      have e3 : evF tab (k + 1) i32 [enc t, s] st = some (.bl (stepOk t s), st) := x_law_is_step h32 hlt (h s (by simp))
      cases hst : stepOk t s with
      | false =>
        rw [hst] at e3
        exact ⟨none, .inr ⟨[some (enc t), some v, some s], by simp [pathT, hlt, hst], by simp [forLoop, guard_nil, bindTg, exB, exS, evW, evA, permute, evs, vD, opsI, eS, e3]⟩⟩
      | true =>
        rw [hst] at e3
        obtain ⟨u, hi, hdu, wu⟩ := inner_ok w hst
        have e4 : evF tab (k + 1) i33 [enc t, s] st = some (enc u, st) := x_law_part h33 hst hi
        have p : pathT t (s :: r) = pathT u r := by simp [pathT, hlt, hst, hi]
        have step : forLoop (fun d r s => match bindTg (.n 2) d r with
        | some r1 => exB (evF tab (k + 1)) [.ite (.or (.p1 (.isT "str") (.v 0)) (.p1 .not (.call i32 [(.v 0), (.v 2)] [0, 1]))) [.ret (.k .non)] [], .asg 0 (.call i33 [(.v 0), (.v 2)] [0, 1])] r1 s
        | none => none) (guardB []) (s :: r) [some (enc t), some v, o2] st = forLoop (fun d r s => match bindTg (.n 2) d r with
        | some r1 => exB (evF tab (k + 1)) [.ite (.or (.p1 (.isT "str") (.v 0)) (.p1 .not (.call i32 [(.v 0), (.v 2)] [0, 1]))) [.ret (.k .non)] [], .asg 0 (.call i33 [(.v 0), (.v 2)] [0, 1])] r1 s
        | none => none) (guardB []) r [some (enc u), some v, some s] st := by
          rw [forLoop, guard_nil, if_pos rfl]
          simp [bindTg, exB, exS, evW, evA, permute, evs, vD, opsI, eS, e3, e4]
        obtain ⟨ρ', ih⟩ := piece_loop h32 h33 r u (some s) wu fun d hd => h d (by simp [hd])
        rw [step, p]
        rcases ih with ih | ⟨ρ2, q1, q2⟩
        · cases hp : pathT u r with
          | some z => exact ⟨ρ', .inl (by rw [ih, hp])⟩
          | none => exact ⟨ρ', .inr ⟨[some (enc u), some v, ρ'], rfl, by rw [ih, hp]⟩⟩
        · exact ⟨none, .inr ⟨ρ2, q1, q2⟩⟩
theorem x_law_piece {i i32 i33 : Nat} (h32 : tab i32 = some ⟨2, 5, B_law_is_step⟩) (h33 : tab i33 = some ⟨2, 4, B_law_part⟩) (h : tab i = some ⟨2, 3, B_law_piece i32 i33⟩) {t : TL} (w : Wf cs t) (hv : Py st 60 v) :
    evF tab (k + 2) i [enc t, v] st = some (match v with | .tup ds => (match pathT t ds with | some u => enc u | none => .non) | _ => .non, st) := by
  have eU := op_tuple hv.ty
  rw [run_fn h rfl]
  cases v with
  | tup ds =>
    obtain ⟨ρ', e⟩ := piece_loop (k := k) (v := .tup ds) h32 h33 ds t none w fun d hd => (hv.item d hd).up (by omega)
    have a9 := s_for0 (T := evF tab (k + 1)) (a := .v 1) (tg := .n 2) (ρ := [some (enc t), some (.tup ds), none]) (st := st) (ds := ds) (b := [.ite (.or (.p1 (.isT "str") (.v 0)) (.p1 .not (.call i32 [(.v 0), (.v 2)] [0, 1]))) [.ret (.k .non)] [], .asg 0 (.call i33 [(.v 0), (.v 2)] [0, 1])]) (w_v rfl)
    show retOf (exB (evF tab (k + 1)) (B_law_piece i32 i33) [some (enc t), some (.tup ds), none] st) = _
    unfold B_law_piece
    rw [b_nx (s_iteF (st1 := st) (by simp [evW, evs, vD, eU, opsI, isU]))]
    rcases e with e | ⟨ρ2, hp, e⟩
    · have e := a9.trans e
      cases hp : pathT t ds with
      | some u =>
        rw [hp] at e
        rw [b_nx e]
        simp [exB, exS, evW, evs, vD, retOf, hp]
      | none =>
        rw [hp] at e
        rw [b_rt e]
        simp [retOf, hp]
    · have e := a9.trans e
      rw [b_rt e]
      simp [retOf, hp]
  | _ => simp [B_law_piece, exB, exS, evW, evs, vD, eU, opsI, isU, retOf]
end
end Px

end

section
set_option maxHeartbeats 2000000
/-! Px10: the law's letter; what the package's own defs say. -/
namespace Px
open Nx
open PySem (PyData Str sizeLine)
def ltD : Option Nat → D
  | some c => .str ⟨#[c]⟩
  | none => .non
section
variable {tab : Nat → Option Fn} {k : Nat} {st : Sto} {v : D} {cs : List Nat}
theorem letter_nl {n : Nat} {t : TL} {v : D} (h : isLt t = false) : letterT (n + 1) t v = (match v with
        | .tup [s, r] => if stepOk t s = true then (match innerT t s with
          | some u => letterT n u r
          | none => none) else none
        | _ => none) := by
  cases t with
  | lt c => cases h
  | _ => rfl
theorem w_ite {T : Calls} {c a b : C} {ρ : Rho} {st : Sto} {x : Bool} {r : V1} (h : evW T c ρ st = some (.val (.bl x), st)) (g : evW T (if x = true then a else b) ρ st = r) : evW T (.ite c a b) ρ st = r := by
  cases x <;> simp [evW, h, truth] <;> simpa using g
abbrev letBody (i32 i33 : Nat) : List Nx.S := [.ite (.p1 (.isT "str") (.v 0)) [.ret (.ite (.and (.p1 (.isT "tuple") (.v 1)) (.p2 .eq (.v 1) (.tup []))) (.v 0) (.k .non))] [], .ite (.or (.p1 .not (.p1 (.isT "tuple") (.v 1))) (.or (.p2 .ne (.p1 .len (.v 1)) (.k (.int 2))) (.p1 .not (.call i32 [(.v 0), (.p2 .idx (.v 1) (.k (.int 0)))] [0, 1])))) [.ret (.k .non)] [], .asgP [0, 1] [(.call i33 [(.v 0), (.p2 .idx (.v 1) (.k (.int 0)))] [0, 1]), (.p2 .idx (.v 1) (.k (.int 1)))]]
theorem letter_turns {i32 i33 : Nat} (h32 : tab i32 = some ⟨2, 5, B_law_is_step⟩) (h33 : tab i33 = some ⟨2, 4, B_law_part⟩) : ∀ (n : Nat) (t : TL) (v : D) (m : Nat) (items : List D) (o2 : Option D), dep t ≤ n → n ≤ items.length → Wf cs t → Py st m v → m ≤ 60 →
    ∃ ρ', forLoop (fun d r s => match bindTg (.n 2) d r with
        | some r1 => exB (evF tab (k + 1)) (letBody i32 i33) r1 s
        | none => none) (guardB []) items [some (enc t), some v, o2] st = some (.rt (ltD (letterT n t v)), ρ', st)
  | 0, t, v, m, items, o2, hd, _, _, _, _ => by have := dep_pos t; omega
  | n + 1, t, v, m, [], o2, _, hl, _, _, _ => by simp at hl
  | n + 1, t, v, m, it :: items, o2, hd, hl, w, hv, hm => by
    have hv60 := hv.up hm
    have eS : op1 (.isT "str") (.val (enc t)) st = some (.val (.bl (isLt t)), st) := by rw [op_str (tyOk_enc t), isS_enc]
    have eU := op_tuple hv60.ty
    have b : bindTg (.n 2) it [some (enc t), some v, o2] = some [some (enc t), some v, some it] := rfl
    rw [forLoop, guard_nil, if_pos rfl, b]
    dsimp only
    cases hlt : isLt t with
    | true =>
      rw [hlt] at eS
      cases t with
      | lt c =>
        have a1 : evW (evF tab (k + 1)) (.and (.p1 (.isT "tuple") (.v 1)) (.p2 .eq (.v 1) (.tup []))) [some (enc (.lt c)), some v, some it] st = some (.val (.bl (isU v && isNil v)), st) :=
          w_and (w_p1 (w_v rfl) eU) fun _ => w_p2 (s2 := st) (w_v rfl) (by simp [evW, evA, vD]) (eq_nil hv60)
        have e5 : (isU v && isNil v) = isNil v := by cases v <;> simp [isU, isNil]
        rw [e5] at a1
        have a2 : evW (evF tab (k + 1)) (.ite (.and (.p1 (.isT "tuple") (.v 1)) (.p2 .eq (.v 1) (.tup []))) (.v 0) (.k .non)) [some (enc (.lt c)), some v, some it] st = some (.val (ltD (letterT (n + 1) (.lt c) v)), st) := by
          refine w_ite a1 ?_
          cases hn : isNil v <;> simp [evW, vD, letterT, hn, ltD, enc]
        refine ⟨[some (enc (.lt c)), some v, some it], ?_⟩
        rw [b_rt ((s_iteT (st1 := st) (by simp [evW, vD, eS])).trans (b_rt (s_retV a2)))]
      | _ => simp [isLt] at hlt
    | false =>
      rw [hlt] at eS
      have lt_of := letter_nl (n := n) (v := v) hlt
      rw [b_nx (s_iteF (st1 := st) (by simp [evW, vD, eS]))]
      have dead : (∀ s r, v ≠ .tup [s, r]) → evW (evF tab (k + 1)) (.or (.p1 .not (.p1 (.isT "tuple") (.v 1))) (.or (.p2 .ne (.p1 .len (.v 1)) (.k (.int 2))) (.p1 .not (.call i32 [(.v 0), (.p2 .idx (.v 1) (.k (.int 0)))] [0, 1])))) [some (enc t), some v, some it] st = some (.val (.bl true), st) := by
        intro hne
        cases v with
        | tup ds =>
          have h2 : ¬ (ds.length : Int) = 2 := by
            intro q
            match ds, q with
            | [], q => simp at q
            | [_], q => simp at q
            | [s, r], _ => exact hne s r rfl
            | _ :: _ :: _ :: _, q => simp at q; omega
          simp [evW, evs, vD, eU, isU, opsI, o_neI, h2]
        | _ => simp [evW, evs, vD, eU, isU, opsI]
      have none_of : (∀ s r, v ≠ .tup [s, r]) → letterT (n + 1) t v = none := fun hne => by
        rw [lt_of]
        split
        · rename_i s r; exact absurd rfl (hne s r)
        · rfl
      by_cases hne : ∃ s r, v = .tup [s, r]
      · obtain ⟨s, r, rfl⟩ := hne
        have hs : Py st 59 s := Py.item (n := 59) hv60 s (by simp)
        have e3 : evF tab (k + 1) i32 [enc t, s] st = some (.bl (stepOk t s), st) := x_law_is_step h32 hlt (hs.up (by omega))
        cases hst : stepOk t s with
        | false =>
          rw [hst] at e3
          have z : letterT (n + 1) t (.tup [s, r]) = none := by rw [lt_of]; simp [hst]
          refine ⟨[some (enc t), some (.tup [s, r]), some it], ?_⟩
          rw [z, b_rt ((s_iteT (st1 := st) (by simp [evW, evA, permute, evs, vD, eU, isU, opsI, opsX, o_neI, e3])).trans (b_rt (s_retV w_k)))]
          rfl
        | true =>
          rw [hst] at e3
          obtain ⟨u, hi, hdu, wu⟩ := inner_ok w hst
          have e4 : evF tab (k + 1) i33 [enc t, s] st = some (enc u, st) := x_law_part h33 hst hi
          have z : letterT (n + 1) t (.tup [s, r]) = letterT n u r := by rw [lt_of]; simp [hst, hi]
          obtain ⟨m', rfl⟩ : ∃ m', m = m' + 1 := by
            cases m with
            | zero => obtain ⟨p, hp⟩ := hv; simp [toPy] at hp
            | succ m' => exact ⟨m', rfl⟩
          obtain ⟨ρ', ih⟩ := letter_turns h32 h33 n u r m' items (some it) (by omega) (by simpa using hl) wu (hv.item r (by simp)) (by omega)
          refine ⟨ρ', ?_⟩
          rw [z, ← ih]
          rw [b_nx (s_iteF (st1 := st) (by simp [evW, evA, permute, evs, vD, eU, isU, opsI, opsX, o_neI, e3]))]
          simp [exB, exS, evW, evA, permute, evs, vD, opsX, e4]
      · have hne : ∀ s r, v ≠ .tup [s, r] := fun s r e => hne ⟨s, r, e⟩
        refine ⟨[some (enc t), some v, some it], ?_⟩
        rw [none_of hne, b_rt ((s_iteT (st1 := st) (dead hne)).trans (b_rt (s_retV w_k)))]
        rfl
theorem x_law_letter {i i32 i33 : Nat} (h32 : tab i32 = some ⟨2, 5, B_law_is_step⟩) (h33 : tab i33 = some ⟨2, 4, B_law_part⟩) (h : tab i = some ⟨2, 3, B_law_letter i32 i33⟩) {t : TL} (w : Wf cs t) (hv : Py st 60 v) (hd : dep t ≤ 40) :
    evF tab (k + 2) i [enc t, v] st = some (ltD (letterT 40 t v), st) := by
  have hl : (rangeD 0 40).length = 40 := rfl
  obtain ⟨ρ', e⟩ := letter_turns (k := k) h32 h33 40 t v 60 (rangeD 0 40) none hd (by rw [hl]; omega) w hv (Nat.le_refl _)
  have a9 : exS (evF tab (k + 1)) (.for_ 3 [(.k (.int 40))] (.n 2) (letBody i32 i33)) [some (enc t), some v, none] st = forLoop (fun d r s => match bindTg (.n 2) d r with
        | some r1 => exB (evF tab (k + 1)) (letBody i32 i33) r1 s
        | none => none) (guardB []) (rangeD 0 40) [some (enc t), some v, none] st := by
    rw [for_eq]
    rfl
  rw [run_fn h rfl]
  show retOf (exB (evF tab (k + 1)) (.for_ 3 [(.k (.int 40))] (.n 2) (letBody i32 i33) :: [.ret (.k .non)]) [some (enc t), some v, none] st) = _
  rw [b_rt (a9.trans e)]
  rfl
end
end Px

end

section
set_option maxHeartbeats 2000000
/-! Px11: places as data; where each lies as a fraction; which one is ahead. -/
namespace Px
open Nx
/-- a place: numbers and nodes on the way to a letter -/
inductive AD where
  | nil | num (i : Nat) (r : AD) | node (bs : List Bool) (r : AD)
  deriving DecidableEq
def bitD (b : Bool) : D := .int (if b then 1 else 0)
def encA : AD → D
  | .nil => .tup []
  | .num i r => .tup [.int (i : Nat), encA r]
  | .node bs r => .tup [.tup (bs.map bitD), encA r]
/-- a place of a timeline, as it is drawn -/
def Ok : TL → AD → Prop
  | .lt _, .nil => True
  | .row l, .num i r => ∃ u, l[i]? = some u ∧ Ok u r
  | .mix l, .node bs r => bs.length ≤ 5 ∧ ∃ u, l[bs.length % l.length]? = some u ∧ Ok u r
  | .on t, .num i r => i < 40 ∧ Ok t r
  | .fr t, .num i r => i < 40 ∧ Ok t r
  | _, _ => False
def nodeP : List Bool → Nat
  | [] => 1
  | b :: r => (if b then 2 else 0) * 3 ^ (r.length + 1) + nodeP r
/-- a step's stretch: it begins at .1 of .2 parts, and is one part wide -/
def stepP : TL → AD → Nat × Nat
  | .row l, .num i _ => (i, l.length)
  | .mix _, .node bs _ => (nodeP bs, 3 ^ (bs.length + 1))
  | .on _, .num i _ => (2 ^ (i + 1) - 2, 2 ^ (i + 1))
  | .fr _, .num i _ => (1, 2 ^ (i + 1))
  | _, _ => (0, 1)
def nextT : TL → AD → Option (TL × AD)
  | .row l, .num i r => l[i]?.map (·, r)
  | .mix l, .node bs r => l[bs.length % l.length]?.map (·, r)
  | .on t, .num _ r => some (t, r)
  | .fr t, .num _ r => some (t, r)
  | _, _ => none
/-- low and below, from given ones -/
def liesN : Nat → TL → AD → Nat → Nat → Nat × Nat
  | 0, _, _, lo, be => (lo, be)
  | n + 1, t, a, lo, be => match nextT t a with
    | some (u, r) => liesN n u r (lo * (stepP t a).2 + (stepP t a).1) (be * (stepP t a).2)
    | none => (lo, be)
def adLen : AD → Nat
  | .nil => 0
  | .num _ r => adLen r + 1
  | .node _ r => adLen r + 1
def nodeAhead : List Bool → List Bool → Bool
  | a :: as, b :: bs => if a = b then nodeAhead as bs else !a
  | a :: _, [] => !a
  | [], b :: _ => b
  | [], [] => false
def headEq : AD → AD → Bool
  | .num i _, .num j _ => i == j
  | .node as _, .node bs _ => as == bs
  | _, _ => false
def stepAhead : TL → AD → AD → Bool
  | .row _, .num i _, .num j _ => decide (i < j)
  | .mix _, .node as _, .node bs _ => nodeAhead as bs
  | .on _, .num i _, .num j _ => decide (i < j)
  | .fr _, .num i _, .num j _ => decide (j < i)
  | _, _, _ => false
def restA : AD → AD
  | .num _ r => r
  | .node _ r => r
  | .nil => .nil
def aheadN : Nat → TL → AD → AD → Bool
  | 0, _, _, _ => false
  | n + 1, t, a, b => match nextT t a with
    | some (u, r) => if headEq a b then aheadN n u r (restA b) else stepAhead t a b
    | none => false
theorem nodeP_lt : ∀ (bs : List Bool), nodeP bs + 1 ≤ 3 ^ (bs.length + 1)
  | [] => by decide
  | b :: r => by
    have h := nodeP_lt r
    simp only [nodeP, List.length_cons, Nat.pow_succ] at h ⊢
    cases b <;> simp <;> omega
theorem nodeP_pos : ∀ (bs : List Bool), 1 ≤ nodeP bs
  | [] => by decide
  | b :: r => by
    have h := nodeP_pos r
    simp only [nodeP]
    omega
/-- which one of two unlike nodes is ahead: the stretches tell it -/
theorem node_cmp : ∀ (as bs : List Bool), as ≠ bs → (nodeAhead as bs = true → (nodeP as + 1) * 3 ^ (bs.length + 1) ≤ nodeP bs * 3 ^ (as.length + 1)) ∧ (nodeAhead as bs = false → (nodeP bs + 1) * 3 ^ (as.length + 1) ≤ nodeP as * 3 ^ (bs.length + 1))
  | [], [], h => absurd rfl h
  | a :: as, [], _ => by
    have h1 := nodeP_lt as
    have h2 := nodeP_pos as
    simp only [nodeAhead, nodeP, List.length_cons, List.length_nil]
    rw [Nat.pow_succ 3 (as.length + 1)]
    generalize 3 ^ (as.length + 1) = x at *
    refine ⟨fun h => ?_, fun h => ?_⟩ <;> cases a <;> simp at h ⊢ <;> omega
  | [], b :: bs, _ => by
    have h1 := nodeP_lt bs
    have h2 := nodeP_pos bs
    simp only [nodeAhead, nodeP, List.length_cons, List.length_nil]
    rw [Nat.pow_succ 3 (bs.length + 1)]
    generalize 3 ^ (bs.length + 1) = x at *
    refine ⟨fun h => ?_, fun h => ?_⟩ <;> cases b <;> simp at h ⊢ <;> omega
  | a :: as, b :: bs, h => by
    have a1 := nodeP_lt as
    have a2 := nodeP_pos as
    have b1 := nodeP_lt bs
    have b2 := nodeP_pos bs
    simp only [nodeAhead, nodeP, List.length_cons]
    rw [Nat.pow_succ 3 (bs.length + 1), Nat.pow_succ 3 (as.length + 1)]
    by_cases e : a = b
    · subst e
      have hne : as ≠ bs := fun q => h (by rw [q])
      obtain ⟨i1, i2⟩ := node_cmp as bs hne
      simp only [if_true]
      generalize 3 ^ (as.length + 1) = x at *
      generalize 3 ^ (bs.length + 1) = y at *
      generalize nodeP as = p at *
      generalize nodeP bs = q at *
      have e1 : ∀ c : Nat, (c * x + p + 1) * (y * 3) = 3 * (c * (x * y)) + 3 * ((p + 1) * y) := fun c => by grind
      have e2 : ∀ c : Nat, (c * y + q) * (x * 3) = 3 * (c * (x * y)) + 3 * (q * x) := fun c => by grind
      have e3 : ∀ c : Nat, (c * y + q + 1) * (x * 3) = 3 * (c * (x * y)) + 3 * ((q + 1) * x) := fun c => by grind
      have e4 : ∀ c : Nat, (c * x + p) * (y * 3) = 3 * (c * (x * y)) + 3 * (p * y) := fun c => by grind
      refine ⟨fun hh => ?_, fun hh => ?_⟩
      · have := i1 hh
        rw [e1, e2]
        omega
      · have := i2 hh
        rw [e3, e4]
        omega
    · simp only [e, if_false]
      generalize 3 ^ (as.length + 1) = x at *
      generalize 3 ^ (bs.length + 1) = y at *
      have lo : ∀ p q : Nat, p + 1 ≤ x → (0 * x + p + 1) * (y * 3) ≤ (2 * y + q) * (x * 3) := fun p q hp => by
        have m1 : (0 * x + p + 1) * (y * 3) ≤ x * (y * 3) := Nat.mul_le_mul_right _ (by omega)
        have m2 : y * (x * 3) ≤ (2 * y + q) * (x * 3) := Nat.mul_le_mul_right _ (by omega)
        have m3 : x * (y * 3) = y * (x * 3) := by rw [← Nat.mul_assoc, Nat.mul_comm x y, Nat.mul_assoc]
        omega
      have hi : ∀ p q : Nat, q + 1 ≤ y → (0 * y + q + 1) * (x * 3) ≤ (2 * x + p) * (y * 3) := fun p q hp => by
        have m1 : (0 * y + q + 1) * (x * 3) ≤ y * (x * 3) := Nat.mul_le_mul_right _ (by omega)
        have m2 : x * (y * 3) ≤ (2 * x + p) * (y * 3) := Nat.mul_le_mul_right _ (by omega)
        have m3 : x * (y * 3) = y * (x * 3) := by rw [← Nat.mul_assoc, Nat.mul_comm x y, Nat.mul_assoc]
        omega
      cases a with
      | false =>
        cases b with
        | false => exact absurd rfl e
        | true => exact ⟨fun _ => lo _ _ a1, fun hh => (by cases hh)⟩
      | true =>
        cases b with
        | true => exact absurd rfl e
        | false => exact ⟨fun hh => (by cases hh), fun _ => hi _ _ b1⟩
end Px

end

section
set_option maxHeartbeats 2000000
/-! Px12: ahead is the same as lower. -/
namespace Px
open Nx
theorem lies_lin : ∀ (n : Nat) (t : TL) (a : AD) (lo be : Nat), liesN n t a lo be = (lo * (liesN n t a 0 1).2 + (liesN n t a 0 1).1, be * (liesN n t a 0 1).2)
  | 0, t, a, lo, be => by simp [liesN]
  | n + 1, t, a, lo, be => by
    simp only [liesN]
    cases h : nextT t a with
    | none => simp
    | some p =>
      obtain ⟨u, r⟩ := p
      simp only
      rw [lies_lin n u r (lo * (stepP t a).2 + (stepP t a).1) (be * (stepP t a).2), lies_lin n u r (0 * (stepP t a).2 + (stepP t a).1) (1 * (stepP t a).2)]
      simp only [Prod.mk.injEq]
      generalize (liesN n u r 0 1).2 = x
      generalize (liesN n u r 0 1).1 = y
      constructor <;> grind
/-- what an Ok place's first step is -/
theorem ok_step {t : TL} {a : AD} (h : Ok t a) (ht : isLt t = false) : ∃ u, nextT t a = some (u, restA a) ∧ Ok u (restA a) ∧ dep u < dep t ∧ (stepP t a).1 + 1 ≤ (stepP t a).2 := by
  cases t with
  | lt c => cases ht
  | row l =>
    cases a <;> simp only [Ok] at h
    rename_i i r
    obtain ⟨u, h1, h2⟩ := h
    have hi := (List.getElem?_eq_some_iff.mp h1).1
    have := depL_get h1
    exact ⟨u, by simp [nextT, h1, restA], h2, by simp only [dep]; omega, by simp only [stepP]; omega⟩
  | mix l =>
    cases a <;> simp only [Ok] at h
    rename_i bs r
    obtain ⟨_, u, h1, h2⟩ := h
    have := depL_get h1
    exact ⟨u, by simp [nextT, h1, restA], h2, by simp only [dep]; omega, nodeP_lt bs⟩
  | on u =>
    cases a <;> simp only [Ok] at h
    rename_i i r
    have p : 2 ≤ 2 ^ (i + 1) := by rw [Nat.pow_succ]; have := Nat.one_le_two_pow (n := i); omega
    exact ⟨u, rfl, h.2, by simp only [dep]; omega, by simp only [stepP]; omega⟩
  | fr u =>
    cases a <;> simp only [Ok] at h
    rename_i i r
    have p : 2 ≤ 2 ^ (i + 1) := by rw [Nat.pow_succ]; have := Nat.one_le_two_pow (n := i); omega
    exact ⟨u, rfl, h.2, by simp only [dep]; omega, by simp only [stepP]; omega⟩
theorem lies_in : ∀ (n : Nat) (t : TL) (a : AD), Ok t a → (liesN n t a 0 1).1 + 1 ≤ (liesN n t a 0 1).2
  | 0, t, a, _ => by simp [liesN]
  | n + 1, t, a, h => by
    simp only [liesN]
    cases hlt : isLt t with
    | true =>
      cases t with
      | lt c => simp [nextT]
      | _ => cases hlt
    | false =>
      obtain ⟨u, h1, h2, _, h4⟩ := ok_step h hlt
      rw [h1]
      simp only
      rw [lies_lin]
      have ih := lies_in n u (restA a) h2
      simp only
      generalize (liesN n u (restA a) 0 1).2 = x at *
      generalize (liesN n u (restA a) 0 1).1 = y at *
      generalize (stepP t a).1 = p at *
      generalize (stepP t a).2 = q at *
      have : (p + 1) * x ≤ q * x := Nat.mul_le_mul_right _ h4
      have e : (p + 1) * x = p * x + x := by grind
      have e2 : (0 * q + p) * x = p * x := by grind
      have e3 : 1 * q * x = q * x := by grind
      omega
theorem step_cmp {t : TL} {a b : AD} (ha : Ok t a) (hb : Ok t b) (ht : isLt t = false) (hne : headEq a b = false) :
    (stepAhead t a b = true → ((stepP t a).1 + 1) * (stepP t b).2 ≤ (stepP t b).1 * (stepP t a).2) ∧ (stepAhead t a b = false → ((stepP t b).1 + 1) * (stepP t a).2 ≤ (stepP t a).1 * (stepP t b).2) := by
  have pw : ∀ {i j : Nat}, i < j → 2 * 2 ^ (i + 1) ≤ 2 ^ (j + 1) := fun {i j} h => by
    have : 2 ^ (i + 1 + 1) ≤ 2 ^ (j + 1) := Nat.pow_le_pow_right (by decide) (by omega)
    rw [Nat.pow_succ 2 (i + 1)] at this
    omega
  have p2 : ∀ i : Nat, 2 ≤ 2 ^ (i + 1) := fun i => by rw [Nat.pow_succ]; have := Nat.one_le_two_pow (n := i); omega
  cases t with
  | lt c => cases ht
  | row l =>
    cases a <;> simp only [Ok] at ha
    cases b <;> simp only [Ok] at hb
    rename_i i r j r'
    simp only [headEq] at hne
    have hij : i ≠ j := by simpa using hne
    simp only [stepAhead, stepP]
    refine ⟨fun h => ?_, fun h => ?_⟩
    · have h : i < j := of_decide_eq_true h
      exact Nat.mul_le_mul_right _ (by omega)
    · have h : ¬ i < j := of_decide_eq_false h
      exact Nat.mul_le_mul_right _ (by omega)
  | mix l =>
    cases a <;> simp only [Ok] at ha
    cases b <;> simp only [Ok] at hb
    rename_i as r bs r'
    simp only [headEq] at hne
    exact node_cmp as bs (by simpa using hne)
  | on u =>
    cases a <;> simp only [Ok] at ha
    cases b <;> simp only [Ok] at hb
    rename_i i r j r'
    simp only [headEq] at hne
    have hij : i ≠ j := by simpa using hne
    simp only [stepAhead, stepP]
    have go : ∀ {i j : Nat}, i < j → (2 ^ (i + 1) - 2 + 1) * 2 ^ (j + 1) ≤ (2 ^ (j + 1) - 2) * 2 ^ (i + 1) := fun {i j} h => by
      have h1 := pw h
      have h2 := p2 i
      have h3 := p2 j
      generalize 2 ^ (i + 1) = x at *
      generalize 2 ^ (j + 1) = y at *
      obtain ⟨x', rfl⟩ : ∃ x', x = x' + 2 := ⟨x - 2, by omega⟩
      obtain ⟨y', rfl⟩ : ∃ y', y = y' + 2 := ⟨y - 2, by omega⟩
      have e1 : (x' + 2 - 2 + 1) * (y' + 2) = x' * y' + 2 * x' + y' + 2 := by
        rw [Nat.add_sub_cancel]; grind
      have e2 : (y' + 2 - 2) * (x' + 2) = x' * y' + 2 * y' := by
        rw [Nat.add_sub_cancel]; grind
      rw [e1, e2]
      omega
    refine ⟨fun h => go (of_decide_eq_true h), fun h => ?_⟩
    have h : ¬ i < j := of_decide_eq_false h
    exact go (by omega)
  | fr u =>
    cases a <;> simp only [Ok] at ha
    cases b <;> simp only [Ok] at hb
    rename_i i r j r'
    simp only [headEq] at hne
    have hij : i ≠ j := by simpa using hne
    simp only [stepAhead, stepP]
    refine ⟨fun h => ?_, fun h => ?_⟩
    · have h : j < i := of_decide_eq_true h
      have := pw h
      omega
    · have h : ¬ j < i := of_decide_eq_false h
      have := pw (show i < j by omega)
      omega
theorem head_eq {t : TL} {a b : AD} (ha : Ok t a) (hb : Ok t b) (h : headEq a b = true) : (nextT t a).map (·.1) = (nextT t b).map (·.1) ∧ stepP t a = stepP t b := by
  cases t <;> cases a <;> simp only [Ok] at ha <;> cases b <;> simp only [Ok] at hb <;> simp only [headEq] at h <;> simp at h
  all_goals subst h
  · rename_i l i r r'
    simp [nextT, stepP, Option.map_map, Function.comp_def]
  · simp [nextT, stepP, Option.map_map, Function.comp_def]
  · simp [nextT, stepP]
  · simp [nextT, stepP]
/-- the law's lower is the program's ahead -/
theorem ahead_lies : ∀ (n : Nat) (t : TL) (a b : AD), dep t ≤ n → Ok t a → Ok t b → aheadN n t a b = decide ((2 * (liesN n t a 0 1).1 + 1) * (liesN n t b 0 1).2 < (2 * (liesN n t b 0 1).1 + 1) * (liesN n t a 0 1).2)
  | 0, t, a, b, h, _, _ => by have := dep_pos t; omega
  | n + 1, t, a, b, h, ha, hb => by
    cases hlt : isLt t with
    | true =>
      cases t with
      | lt c => simp [aheadN, liesN, nextT]
      | _ => cases hlt
    | false =>
      obtain ⟨u, a1, a2, a3, a4⟩ := ok_step ha hlt
      obtain ⟨w, b1, b2, b3, b4⟩ := ok_step hb hlt
      simp only [aheadN, liesN, a1, b1]
      rw [lies_lin n u, lies_lin n w]
      have la := lies_in n u (restA a) a2
      have lb := lies_in n w (restA b) b2
      simp only
      cases he : headEq a b with
      | true =>
        obtain ⟨e1, e2⟩ := head_eq ha hb he
        rw [a1, b1] at e1
        have e1 : u = w := by simpa using e1
        subst e1
        rw [if_pos rfl, ahead_lies n u (restA a) (restA b) (by omega) a2 b2, e2]
        rw [e2] at a4
        generalize (liesN n u (restA a) 0 1).2 = x at *
        generalize (liesN n u (restA a) 0 1).1 = y at *
        generalize (liesN n u (restA b) 0 1).2 = x' at *
        generalize (liesN n u (restA b) 0 1).1 = y' at *
        generalize (stepP t b).1 = p at *
        generalize (stepP t b).2 = q at *
        have l : (2 * ((0 * q + p) * x + y) + 1) * (1 * q * x') = 2 * p * q * x * x' + q * ((2 * y + 1) * x') := by grind
        have r : (2 * ((0 * q + p) * x' + y') + 1) * (1 * q * x) = 2 * p * q * x * x' + q * ((2 * y' + 1) * x) := by grind
        rw [l, r]
        have iff : (2 * y + 1) * x' < (2 * y' + 1) * x ↔ 2 * p * q * x * x' + q * ((2 * y + 1) * x') < 2 * p * q * x * x' + q * ((2 * y' + 1) * x) := by
          rw [Nat.add_lt_add_iff_left]
          exact (Nat.mul_lt_mul_left (by omega)).symm
        exact decide_eq_decide.mpr iff
      | false =>
        obtain ⟨c1, c2⟩ := step_cmp ha hb hlt he
        rw [if_neg Bool.false_ne_true]
        generalize (liesN n u (restA a) 0 1).2 = x at *
        generalize (liesN n u (restA a) 0 1).1 = y at *
        generalize (liesN n w (restA b) 0 1).2 = x' at *
        generalize (liesN n w (restA b) 0 1).1 = y' at *
        generalize (stepP t a).1 = p at *
        generalize (stepP t a).2 = q at *
        generalize (stepP t b).1 = p' at *
        generalize (stepP t b).2 = q' at *
        have l : (2 * ((0 * q + p) * x + y) + 1) * (1 * q' * x') = (2 * (p * x + y) + 1) * (q' * x') := by grind
        have r : (2 * ((0 * q' + p') * x' + y') + 1) * (1 * q * x) = (2 * (p' * x' + y') + 1) * (q * x) := by grind
        rw [l, r]
        -- a stretch that ends where the other begins, or ahead of it
        have sep : ∀ {p q p' q' x y x' y' : Nat}, (p + 1) * q' ≤ p' * q → y + 1 ≤ x → y' + 1 ≤ x' → p + 1 ≤ q → p' + 1 ≤ q' → (2 * (p * x + y) + 1) * (q' * x') < (2 * (p' * x' + y') + 1) * (q * x) := fun {p q p' q' x y x' y'} h1 h2 h3 h4 h5 => by
          have s1 : 2 * (p * x + y) + 1 ≤ 2 * ((p + 1) * x) := by
            have : (p + 1) * x = p * x + x := by grind
            omega
          have s2 : (2 * (p * x + y) + 1) * (q' * x') ≤ 2 * ((p + 1) * x) * (q' * x') := Nat.mul_le_mul_right _ s1
          have s3 : 2 * ((p + 1) * x) * (q' * x') = 2 * ((p + 1) * q') * (x * x') := by grind
          have s4 : 2 * ((p + 1) * q') * (x * x') ≤ 2 * (p' * q) * (x * x') := Nat.mul_le_mul_right _ (by omega)
          have s5 : (2 * (p' * x' + y') + 1) * (q * x) = 2 * (p' * q) * (x * x') + (2 * y' + 1) * (q * x) := by grind
          have s6 : 0 < (2 * y' + 1) * (q * x) := Nat.mul_pos (by omega) (Nat.mul_pos (by omega) (by omega))
          omega
        cases hs : stepAhead t a b with
        | true => exact (decide_eq_true (sep (c1 hs) la lb a4 b4)).symm
        | false => exact (decide_eq_false (Nat.lt_asymm (sep (c2 hs) lb la b4 a4))).symm
end Px

end

section
set_option maxHeartbeats 2000000
/-! Px13: what is_ahead, and the law's own lies, compute. -/
namespace Px
open Nx
theorem node_asym : ∀ (as bs : List Bool), as ≠ bs → nodeAhead as bs = !nodeAhead bs as
  | [], [], h => absurd rfl h
  | a :: as, [], _ => by simp [nodeAhead]
  | [], b :: bs, _ => by simp [nodeAhead]
  | a :: as, b :: bs, h => by
    by_cases e : a = b
    · subst e
      simp only [nodeAhead, if_true]
      exact node_asym as bs fun q => h (by rw [q])
    · have e2 : ¬ b = a := fun q => e q.symm
      simp only [nodeAhead, e, e2, if_false]
      cases a <;> cases b <;> simp at e ⊢
theorem beq_sym {α : Type} [BEq α] [LawfulBEq α] (a b : α) : (a == b) = (b == a) := by
  by_cases e : a = b
  · subst e; rfl
  · rw [beq_eq_false_iff_ne.mpr e, beq_eq_false_iff_ne.mpr (Ne.symm e)]
theorem head_sym (a b : AD) : headEq a b = headEq b a := by
  cases a <;> cases b <;> first | rfl | exact beq_sym _ _
theorem ahead_asym : ∀ (n : Nat) (t : TL) (a b : AD), dep t ≤ n → Ok t a → Ok t b → a ≠ b → aheadN n t a b = !aheadN n t b a
  | 0, t, a, b, h, _, _, _ => by have := dep_pos t; omega
  | n + 1, t, a, b, h, ha, hb, hne => by
    cases hlt : isLt t with
    | true =>
      cases t with
      | lt c =>
        cases a <;> simp only [Ok] at ha
        cases b <;> simp only [Ok] at hb
        exact absurd rfl hne
      | _ => cases hlt
    | false =>
      obtain ⟨u, a1, a2, a3, a4⟩ := ok_step ha hlt
      obtain ⟨w, b1, b2, b3, b4⟩ := ok_step hb hlt
      simp only [aheadN, a1, b1, head_sym b a]
      cases he : headEq a b with
      | true =>
        obtain ⟨e1, _⟩ := head_eq ha hb he
        rw [a1, b1] at e1
        have e1 : u = w := by simpa using e1
        subst e1
        simp only [if_true]
        refine ahead_asym n u (restA a) (restA b) (by omega) a2 b2 fun q => hne ?_
        cases a <;> cases b <;> simp [headEq] at he <;> simp [restA] at q <;> simp [he, q]
      | false =>
        simp only [Bool.false_eq_true, if_false]
        cases t with
        | lt c => cases hlt
        | row l =>
          cases a <;> simp only [Ok] at ha
          cases b <;> simp only [Ok] at hb
          rename_i i r j r'
          have hij : i ≠ j := by simpa [headEq] using he
          simp only [stepAhead]
          rw [Bool.eq_iff_iff]; simp; omega
        | mix l =>
          cases a <;> simp only [Ok] at ha
          cases b <;> simp only [Ok] at hb
          rename_i as r bs r'
          exact node_asym as bs (by simpa [headEq] using he)
        | on u =>
          cases a <;> simp only [Ok] at ha
          cases b <;> simp only [Ok] at hb
          rename_i i r j r'
          have hij : i ≠ j := by simpa [headEq] using he
          simp only [stepAhead]
          rw [Bool.eq_iff_iff]; simp; omega
        | fr u =>
          cases a <;> simp only [Ok] at ha
          cases b <;> simp only [Ok] at hb
          rename_i i r j r'
          have hij : i ≠ j := by simpa [headEq] using he
          simp only [stepAhead]
          rw [Bool.eq_iff_iff]; simp; omega
/-! places as data -/
theorem bit_inj {a b : Bool} (h : bitD a = bitD b) : a = b := by cases a <;> cases b <;> simp [bitD] at h ⊢
theorem bits_inj : ∀ {as bs : List Bool}, as.map bitD = bs.map bitD → as = bs
  | [], [], _ => rfl
  | a :: as, b :: bs, h => by
    simp only [List.map_cons, List.cons.injEq] at h
    rw [bit_inj h.1, bits_inj h.2]
  | [], _ :: _, h => by simp at h
  | _ :: _, [], h => by simp at h
mutual
theorem pyv_int (st : Sto) (n : Nat) (i : Int) : toPy st n (.int i) = some (.int i) := by cases n <;> simp [toPy]
end
def pyA : AD → PySem.PyData
  | .nil => .tuple []
  | .num i r => .tuple [.int (i : Nat), pyA r]
  | .node bs r => .tuple [.tuple (bs.map fun b => .int (if b then 1 else 0)), pyA r]
theorem py_bits (st : Sto) (n : Nat) : ∀ (bs : List Bool), (bs.map bitD).mapM (toPy st n) = some (bs.map fun b => .int (if b then 1 else 0))
  | [] => by simp
  | b :: r => by
    rw [List.map_cons, List.mapM_cons, py_bits st n r]
    have : toPy st n (bitD b) = some (.int (if b then 1 else 0)) := pyv_int st n _
    rw [this]
    rfl
theorem py_encA (st : Sto) : ∀ (a : AD) (n : Nat), adLen a + 2 ≤ n → toPy st n (encA a) = some (pyA a)
  | .nil, n, h => by
    obtain ⟨m, rfl⟩ : ∃ m, n = m + 1 := ⟨n - 1, by omega⟩
    simp [encA, toPy, pyA]
  | .num i r, n, h => by
    obtain ⟨m, rfl⟩ : ∃ m, n = m + 1 := ⟨n - 1, by omega⟩
    have ih := py_encA st r m (by simp only [adLen] at h; omega)
    simp [encA, toPy, pyA, ih, pyv_int]
  | .node bs r, n, h => by
    obtain ⟨m, rfl⟩ : ∃ m, n = m + 2 := ⟨n - 2, by omega⟩
    have ih := py_encA st r (m + 1) (by simp only [adLen] at h; omega)
    have e : toPy st (m + 1) (.tup (bs.map bitD)) = some (.tuple (bs.map fun b => .int (if b then 1 else 0))) := by
      rw [toPy, py_bits]; rfl
    rw [encA, toPy, List.mapM_cons, List.mapM_cons, List.mapM_nil, e, ih]
    rfl
theorem ok_len : ∀ {t : TL} {a : AD}, Ok t a → adLen a < dep t
  | .lt c, .nil, _ => by simp [adLen, dep]
  | .row l, .num i r, h => by
    obtain ⟨u, h1, h2⟩ := h
    have := depL_get h1
    have := ok_len h2
    simp only [adLen, dep]; omega
  | .mix l, .node bs r, h => by
    obtain ⟨_, u, h1, h2⟩ := h
    have := depL_get h1
    have := ok_len h2
    simp only [adLen, dep]; omega
  | .on t, .num i r, h => by
    have := ok_len h.2
    simp only [adLen, dep]; omega
  | .fr t, .num i r, h => by
    have := ok_len h.2
    simp only [adLen, dep]; omega
/-! the walks -/
theorem within_nat {i : Nat} {n : Int} (h : (i : Int) ≤ n) : within (.int (i : Nat)) 0 n = true := by simp [within, h]
theorem node_bits (bs : List Bool) (h : bs.length ≤ 100) : isNode (.tup (bs.map bitD)) = true := by
  simp only [isNode, List.length_map, Bool.and_eq_true, decide_eq_true_eq, List.all_eq_true]
  refine ⟨h, fun d hd => ?_⟩
  obtain ⟨b, _, rfl⟩ := List.mem_map.mp hd
  cases b <;> simp [bitD, within]
/-- a drawn place's first step is a step of the timeline, the part behind it is the next -/
def headD : AD → D
  | .nil => .non
  | .num i _ => .int (i : Nat)
  | .node bs _ => .tup (bs.map bitD)
theorem enc_pair {t : TL} {a : AD} (h : Ok t a) (ht : isLt t = false) : encA a = .tup [headD a, encA (restA a)] := by
  cases t <;> cases a <;> simp only [Ok] at h <;> first | rfl | (cases ht)
theorem ok_stepOk {cs : List Nat} {t : TL} {a : AD} (w : Wf cs t) (h : Ok t a) (ht : isLt t = false) : stepOk t (headD a) = true ∧ innerT t (headD a) = (nextT t a).map (·.1) := by
  cases t with
  | lt c => cases ht
  | row l =>
    cases a <;> simp only [Ok] at h
    rename_i i r
    obtain ⟨u, h1, _⟩ := h
    have hi := (List.getElem?_eq_some_iff.mp h1).1
    exact ⟨within_nat (by omega), by simp [innerT, headD, nextT, h1]⟩
  | mix l =>
    cases a <;> simp only [Ok] at h
    rename_i bs r
    obtain ⟨h0, u, h1, _⟩ := h
    exact ⟨node_bits bs (by omega), by simp [innerT, headD, nextT, h1]⟩
  | on u =>
    cases a <;> simp only [Ok] at h
    exact ⟨within_nat (by unfold far; omega), rfl⟩
  | fr u =>
    cases a <;> simp only [Ok] at h
    exact ⟨within_nat (by unfold far; omega), rfl⟩
theorem ok_addr {cs : List Nat} : ∀ (n : Nat) (t : TL) (a : AD), dep t ≤ n → Wf cs t → Ok t a → isAddr n t (encA a) = true
  | 0, t, a, h, _, _ => by have := dep_pos t; omega
  | n + 1, t, a, h, w, ha => by
    cases hlt : isLt t with
    | true =>
      cases t with
      | lt c =>
        cases a <;> simp only [Ok] at ha
        rfl
      | _ => cases hlt
    | false =>
      obtain ⟨u, a1, a2, a3, _⟩ := ok_step ha hlt
      obtain ⟨s1, s2⟩ := ok_stepOk w ha hlt
      rw [a1] at s2
      obtain ⟨u', hi, _, wu⟩ := inner_ok w s1
      have e : u' = u := by rw [hi] at s2; simpa using s2
      subst e
      have ih := ok_addr n u' (restA a) (by omega) wu a2
      rw [enc_pair ha hlt, isAddr, hlt, if_neg Bool.false_ne_true, s1, hi]
      exact ih
theorem eqv_bits : ∀ (as bs : List Bool), PySem.PyData.eqvAll (as.map fun b => .int (if b then 1 else 0)) (bs.map fun b => .int (if b then 1 else 0)) = (as == bs)
  | [], [] => rfl
  | [], _ :: _ => rfl
  | _ :: _, [] => rfl
  | a :: as, b :: bs => by
    simp only [List.map_cons, PySem.PyData.eqvAll, eqv_bits as bs, PySem.PyData.eqv]
    cases a <;> cases b <;> rfl
section
variable {tab : Nat → Option Fn} {k : Nat} {st : Sto} {cs : List Nat}
/-- == of two first steps -/
theorem eq_head {t : TL} {a b : AD} (ha : Ok t a) (hb : Ok t b) (ht : isLt t = false) : op2 .eq (.val (headD a)) (.val (headD b)) st = some (.val (.bl (headEq a b)), st) := by
  have pb : ∀ bs : List Bool, toPy st 60 (.tup (bs.map bitD)) = some (.tuple (bs.map fun b => .int (if b then 1 else 0))) := fun bs => by rw [toPy, py_bits]; rfl
  cases t with
  | lt c => cases ht
  | mix l =>
    cases a <;> simp only [Ok] at ha
    cases b <;> simp only [Ok] at hb
    rename_i as r bs r'
    simp only [headD, op2, eqD, toPyW, pb, PySem.PyData.eqv, eqv_bits, headEq, vB, vD]
  | _ =>
    cases a <;> simp only [Ok] at ha
    cases b <;> simp only [Ok] at hb
    rename_i i r j r'
    have e : decide ((i : Int) = (j : Int)) = (i == j) := by rw [Bool.eq_iff_iff]; simp; omega
    simp only [headD, o_eqI, headEq, e]
theorem bit_ne (a b : Bool) : op2 .ne (.val (bitD a)) (.val (bitD b)) st = some (.val (.bl (!(a == b))), st) := by
  cases a <;> cases b <;> simp [bitD, o_neI]
theorem bit_eq0 (a : Bool) : op2 .eq (.val (bitD a)) (.val (.int 0)) st = some (.val (.bl (!a)), st) := by cases a <;> simp [bitD, o_eqI]
theorem bit_eq1 (a : Bool) : op2 .eq (.val (bitD a)) (.val (.int 1)) st = some (.val (.bl a), st) := by cases a <;> simp [bitD, o_eqI]
end
end Px

end

section
set_option maxHeartbeats 2000000
/-! Px14: is_ahead. -/
namespace Px
open Nx
def zipRes : List Bool → List Bool → Option Bool
  | a :: as, b :: bs => if a = b then zipRes as bs else some (!a)
  | _, _ => none
theorem zip_some : ∀ {as bs : List Bool} {r : Bool}, zipRes as bs = some r → nodeAhead as bs = r
  | a :: as, b :: bs, r, h => by
    simp only [zipRes, nodeAhead] at h ⊢
    by_cases e : a = b
    · rw [if_pos e] at h ⊢; exact zip_some h
    · rw [if_neg e] at h ⊢; exact Option.some.inj h
  | [], _, r, h => by simp [zipRes] at h
  | _ :: _, [], r, h => by simp [zipRes] at h
theorem zip_none : ∀ {as bs : List Bool}, zipRes as bs = none → as ≠ bs → (bs.length < as.length ∧ ∃ x, as[bs.length]? = some x ∧ nodeAhead as bs = !x) ∨ (as.length < bs.length ∧ ∃ x, bs[as.length]? = some x ∧ nodeAhead as bs = x)
  | [], [], _, h => absurd rfl h
  | a :: as, [], _, _ => .inl ⟨by simp, a, rfl, rfl⟩
  | [], b :: bs, _, _ => .inr ⟨by simp, b, rfl, rfl⟩
  | a :: as, b :: bs, h, hne => by
    simp only [zipRes] at h
    by_cases e : a = b
    · subst e
      rw [if_pos rfl] at h
      have q := zip_none h fun z => hne (by rw [z])
      simp only [nodeAhead, if_true, List.length_cons]
      rcases q with ⟨q1, x, q2, q3⟩ | ⟨q1, x, q2, q3⟩
      · exact .inl ⟨by omega, x, by simpa using q2, q3⟩
      · exact .inr ⟨by omega, x, by simpa using q2, q3⟩
    · rw [if_neg e] at h; cases h
section
variable {tab : Nat → Option Fn} {k : Nat} {st : Sto} {cs : List Nat}
abbrev naBody : List Nx.S := [.ite (.p2 .ne (.v 2) (.v 3)) [.ret (.p2 .eq (.v 2) (.k (.int 0)))] []]
theorem na_loop (T : Calls) (A B : D) : ∀ (as bs : List Bool) (o2 o3 : Option D), ∃ r2 r3, forLoop (fun d r s => match bindTg (.t [2, 3]) d r with
        | some r1 => exB T naBody r1 s
        | none => none) (guardB []) (List.zipWith (fun a b => .tup [a, b]) (as.map bitD) (bs.map bitD)) [some A, some B, o2, o3] st = some (match zipRes as bs with | some r => .rt (.bl r) | none => .nx, [some A, some B, r2, r3], st)
  | [], bs, o2, o3 => ⟨o2, o3, by simp [forLoop, guard_nil, zipRes]⟩
  | a :: as, [], o2, o3 => ⟨o2, o3, by simp [forLoop, guard_nil, zipRes]⟩
  | a :: as, b :: bs, o2, o3 => by
    by_cases e : a = b
    · subst e
      obtain ⟨r2, r3, ih⟩ := na_loop T A B as bs (some (bitD a)) (some (bitD a))
      refine ⟨r2, r3, ?_⟩
      rw [zipRes, if_pos rfl, ← ih]
      rw [List.map_cons, List.map_cons, List.zipWith_cons_cons, forLoop, guard_nil, if_pos rfl]
      simp [bindTg, exB, exS, evW, evs, vD, bit_ne]
    · refine ⟨some (bitD a), some (bitD b), ?_⟩
      have e2 : (a == b) = false := by simpa using e
      rw [zipRes, if_neg e]
      rw [List.map_cons, List.map_cons, List.zipWith_cons_cons, forLoop, guard_nil, if_pos rfl]
      simp [bindTg, exB, exS, evW, evs, vD, bit_ne, bit_eq0, e2]
theorem x_is_node_ahead {i : Nat} (h : tab i = some ⟨2, 4, B_is_node_ahead⟩) {as bs : List Bool} (hne : as ≠ bs) : evF tab (k + 1) i [.tup (as.map bitD), .tup (bs.map bitD)] st = some (.bl (nodeAhead as bs), st) := by
  obtain ⟨r2, r3, e⟩ := na_loop (st := st) (evF tab k) (.tup (as.map bitD)) (.tup (bs.map bitD)) as bs none none
  have a9 : exS (evF tab k) (.for_ 1 [(.v 0), (.v 1)] (.t [2, 3]) naBody) [some (.tup (as.map bitD)), some (.tup (bs.map bitD)), none, none] st = forLoop (fun d r s => match bindTg (.t [2, 3]) d r with
        | some r1 => exB (evF tab k) naBody r1 s
        | none => none) (guardB []) (List.zipWith (fun a b => .tup [a, b]) (as.map bitD) (bs.map bitD)) [some (.tup (as.map bitD)), some (.tup (bs.map bitD)), none, none] st := by
    rw [for_eq]
    rfl
  have e := a9.trans e
  rw [run_fn h rfl]
  show retOf (exB (evF tab k) (.for_ 1 [(.v 0), (.v 1)] (.t [2, 3]) naBody :: [_]) [some (.tup (as.map bitD)), some (.tup (bs.map bitD)), none, none] st) = _
  cases hz : zipRes as bs with
  | some r =>
    rw [hz] at e
    rw [b_rt e, zip_some hz]
    rfl
  | none =>
    rw [hz] at e
    rw [b_nx e]
    rcases zip_none hz hne with ⟨q1, x, q2, q3⟩ | ⟨q1, x, q2, q3⟩
    · have g : (bs.length : Int) < (as.length : Int) := by omega
      have ix : op2 .idx (.val (.tup (as.map bitD))) (.val (.int (bs.length : Nat))) st = some (.val (bitD x), st) := o_idx (at_nat (by rw [List.getElem?_map, q2]; rfl))
      simp [exB, exS, evW, evs, vD, opsI, g, ix, bit_eq0, retOf, q3]
    · have g : ¬ (bs.length : Int) < (as.length : Int) := by omega
      have ix : op2 .idx (.val (.tup (bs.map bitD))) (.val (.int (as.length : Nat))) st = some (.val (bitD x), st) := o_idx (at_nat (by rw [List.getElem?_map, q2]; rfl))
      simp [exB, exS, evW, evs, vD, opsI, g, ix, bit_eq1, retOf, q3]
theorem x_is_ahead_by {i0 i1 i9 i10 i11 i15 i16 : Nat} (M : StepAt tab i0 i1 i9 i10 i11) (h15 : tab i15 = some ⟨2, 4, B_is_node_ahead⟩) (h : tab i16 = some ⟨3, 3, B_is_ahead_by i16 i11 i15⟩) :
    ∀ (n : Nat) (t : TL) (a b : AD), dep t ≤ n → Wf cs t → Ok t a → Ok t b → evF tab (k + n + 1) i16 [enc t, encA a, encA b] st = some (.bl (aheadN n t a b), st)
  | 0, t, a, b, hd, _, _, _ => by have := dep_pos t; omega
  | n + 1, t, a, b, hd, w, ha, hb => by
    have eS : op1 (.isT "str") (.val (enc t)) st = some (.val (.bl (isLt t)), st) := by rw [op_str (tyOk_enc t), isS_enc]
    rw [run_fn h rfl]
    cases hlt : isLt t with
    | true =>
      rw [hlt] at eS
      have z : aheadN (n + 1) t a b = false := by
        cases t with
        | lt c => simp [aheadN, nextT]
        | _ => cases hlt
      simp [B_is_ahead_by, exB, exS, evW, evs, vD, eS, retOf, z]
    | false =>
      rw [hlt] at eS
      obtain ⟨u, a1, a2, a3, a4⟩ := ok_step ha hlt
      obtain ⟨u2, b1, b2, b3, b4⟩ := ok_step hb hlt
      clear a4 b4
      obtain ⟨s1, s2⟩ := ok_stepOk w ha hlt
      rw [a1] at s2
      replace s2 : innerT t (headD a) = some u := by simpa using s2
      obtain ⟨u', hi, hdu, wu⟩ := inner_ok w s1
      have e : u' = u := by rw [hi] at s2; exact Option.some.inj s2
      subst e
      have e0 := eq_head (st := st) ha hb hlt
      have pa := enc_pair ha hlt
      have pb := enc_pair hb hlt
      cases he : headEq a b with
      | true =>
        rw [he] at e0
        obtain ⟨e1, _⟩ := head_eq ha hb he
        rw [a1, b1] at e1
        have e1 : u' = u2 := by simpa using e1
        subst e1
        have e4 : evF tab (k + n + 1) i11 [enc t, headD a] st = some (enc u', st) := x_inner (k := k + n) M s1 hi
        have ih := x_is_ahead_by M h15 h n u' (restA a) (restA b) (by omega) wu a2 b2
        have z : aheadN (n + 1) t a b = aheadN n u' (restA a) (restA b) := by simp [aheadN, a1, he]
        rw [pa, pb, z]
        show retOf (exB (evF tab (k + n + 1)) (B_is_ahead_by i16 i11 i15) [some (enc t), some (.tup [headD a, encA (restA a)]), some (.tup [headD b, encA (restA b)])] st) = _
        simp [B_is_ahead_by, exB, exS, evW, evA, permute, evs, vD, eS, opsX, e0, e4, ih, retOf]
      | false =>
        rw [he] at e0
        have z : aheadN (n + 1) t a b = stepAhead t a b := by simp [aheadN, a1, he]
        rw [pa, pb, z]
        show retOf (exB (evF tab (k + n + 1)) (B_is_ahead_by i16 i11 i15) [some (enc t), some (.tup [headD a, encA (restA a)]), some (.tup [headD b, encA (restA b)])] st) = _
        cases t with
        | lt c => cases hlt
        | mix l =>
          cases a <;> simp only [Ok] at ha
          cases b <;> simp only [Ok] at hb
          rename_i as r bs r'
          have hne : as ≠ bs := by simpa [headEq] using he
          have e5 := x_is_node_ahead (k := k + n) (st := st) h15 hne
          simp only [headD, enc] at e0 eS ⊢
          simp [B_is_ahead_by, exB, exS, evW, evA, permute, evs, vD, eS, opsX, e0, o_eqS, e5, retOf, stepAhead]
        | row l =>
          cases a <;> simp only [Ok] at ha
          cases b <;> simp only [Ok] at hb
          rename_i i r j r'
          have hij : ((i : Int) < (j : Int)) ↔ i < j := by omega
          simp only [headD, enc] at e0 eS ⊢
          simp [B_is_ahead_by, exB, exS, evW, evA, permute, evs, vD, eS, opsX, opsI, e0, o_eqS, p2', p3', hij, retOf, stepAhead]
        | on u =>
          cases a <;> simp only [Ok] at ha
          cases b <;> simp only [Ok] at hb
          rename_i i r j r'
          have hij : ((i : Int) < (j : Int)) ↔ i < j := by omega
          simp only [headD, enc] at e0 eS ⊢
          simp [B_is_ahead_by, exB, exS, evW, evA, permute, evs, vD, eS, opsX, opsI, e0, o_eqS, p5', p6', hij, retOf, stepAhead]
        | fr u =>
          cases a <;> simp only [Ok] at ha
          cases b <;> simp only [Ok] at hb
          rename_i i r j r'
          have hij : ((j : Int) < (i : Int)) ↔ j < i := by omega
          simp only [headD, enc] at e0 eS ⊢
          simp [B_is_ahead_by, exB, exS, evW, evA, permute, evs, vD, eS, opsX, opsI, e0, o_eqS, p9', hij, retOf, stepAhead]
end
end Px

end

section
set_option maxHeartbeats 2000000
/-! Px15: where the law lays a place. -/
namespace Px
open Nx
theorem log2_le {n k : Nat} (h : n < 2 ^ k) : n.log2 ≤ k := by
  by_cases e : n = 0
  · subst e; simp
  · exact Nat.le_of_lt ((Nat.log2_lt e).mpr h)
/-- numbers below this are multiplied without more ado -/
def MB : Nat := 2 ^ 1000
def P50 : Nat := 2 ^ 50
theorem mb_eq : MB = 2 ^ 1000 := rfl
theorem o_mul {st : Sto} {i j : Int} (hi : i.natAbs < MB) (hj : j.natAbs < MB) : op2 .mul (.val (.int i)) (.val (.int j)) st = some (.val (.int (i * j)), st) := by
  rw [mb_eq] at hi hj
  have h1 := log2_le hi
  have h2 := log2_le hj
  have h : mulOk i j = true := by unfold mulOk; exact decide_eq_true (by omega)
  simp [op2, h, vI, vD]
theorem o_mulN {st : Sto} {i j : Nat} (hi : i < MB) (hj : j < MB) : op2 .mul (.val (.int (i : Nat))) (.val (.int (j : Nat))) st = some (.val (.int ((i * j : Nat) : Int)), st) := by
  rw [o_mul (by simpa using hi) (by simpa using hj)]
  simp
theorem small1000 {n : Nat} (h : n < 2 ^ 64) : n < MB := Nat.lt_of_lt_of_le h (Nat.pow_le_pow_right (by decide) (by decide))
theorem p50_mb : 2 * P50 < MB := small1000 (by decide)
def loF : List Bool → Nat → Nat
  | [], lo => lo
  | b :: r, lo => loF r (lo * 3 + (if b then 2 else 0))
theorem loF_eq : ∀ (bs : List Bool) (lo : Nat), loF bs lo * 3 + 1 = lo * 3 ^ (bs.length + 1) + nodeP bs
  | [], lo => by simp [loF, nodeP]
  | b :: r, lo => by
    rw [loF, loF_eq r, nodeP, List.length_cons, Nat.pow_succ 3 (r.length + 1)]
    generalize 3 ^ (r.length + 1) = x
    generalize nodeP r = y
    cases b <;> simp <;> grind
theorem loF_lt : ∀ (bs : List Bool) (lo be : Nat), lo + 1 ≤ be → loF bs lo + 1 ≤ be * 3 ^ bs.length
  | [], lo, be, h => by simpa [loF] using h
  | b :: r, lo, be, h => by
    have := loF_lt r (lo * 3 + (if b then 2 else 0)) (be * 3) (by cases b <;> simp <;> omega)
    rw [loF, List.length_cons, Nat.pow_succ]
    have e : be * (3 ^ r.length * 3) = be * 3 * 3 ^ r.length := by grind
    omega
section
variable {T : Calls} {st : Sto}
/-- the bits of a node, one by one -/
theorem bits_loop {A B W1 W2 W3 : Option D} {o9 o10 : Option D} : ∀ (bs : List Bool) (lo be : Nat) (o8 : Option D), lo + 1 ≤ be → be * 3 ^ bs.length < MB →
    ∃ r8, forLoop (fun d r s => match bindTg (.n 8) d r with
        | some r1 => exB T [.asgP [2, 4] [(.p2 .add (.p2 .mul (.v 2) (.k (.int 3))) (.p2 .mul (.p2 .mul (.k (.int 2)) (.v 8)) (.v 3))), (.p2 .mul (.v 4) (.k (.int 3)))]] r1 s
        | none => none) (guardB []) (bs.map bitD) [A, B, some (.int (lo : Nat)), some (.int 1), some (.int (be : Nat)), W1, W2, W3, o8, o9, o10] st =
      some (.nx, [A, B, some (.int (loF bs lo : Nat)), some (.int 1), some (.int ((be * 3 ^ bs.length : Nat) : Int)), W1, W2, W3, r8, o9, o10], st)
  | [], lo, be, o8, _, _ => ⟨o8, by simp [forLoop, guard_nil, loF]⟩
  | b :: r, lo, be, o8, h, hb => by
    have e : be * 3 ^ (b :: r).length = be * 3 * 3 ^ r.length := by rw [List.length_cons, Nat.pow_succ]; grind
    rw [e] at hb ⊢
    have h3 : be * 3 < MB := Nat.lt_of_le_of_lt (Nat.le_mul_of_pos_right _ (Nat.pow_pos (by decide))) hb
    obtain ⟨r8, ih⟩ := bits_loop r (lo * 3 + (if b then 2 else 0)) (be * 3) (some (bitD b)) (by cases b <;> simp <;> omega) hb
    refine ⟨r8, ?_⟩
    rw [loF, ← ih]
    rw [List.map_cons, forLoop, guard_nil, if_pos rfl]
    have m1 : op2 .mul (.val (.int (lo : Nat))) (.val (.int 3)) st = some (.val (.int ((lo * 3 : Nat) : Int)), st) := o_mulN (by omega) (small1000 (by decide))
    have m2 : op2 .mul (.val (.int (be : Nat))) (.val (.int 3)) st = some (.val (.int ((be * 3 : Nat) : Int)), st) := o_mulN (by omega) (small1000 (by decide))
    have m3 : op2 .mul (.val (.int 2)) (.val (bitD b)) st = some (.val (.int ((if b then 2 else 0 : Nat) : Int)), st) := by
      cases b
      · exact o_mulN (i := 2) (j := 0) (small1000 (by decide)) (small1000 (by decide))
      · exact o_mulN (i := 2) (j := 1) (small1000 (by decide)) (small1000 (by decide))
    have m4 : op2 .mul (.val (.int ((if b then 2 else 0 : Nat) : Int))) (.val (.int 1)) st = some (.val (.int ((if b then 2 else 0 : Nat) : Int)), st) := by
      cases b
      · exact o_mulN (i := 0) (j := 1) (small1000 (by decide)) (small1000 (by decide))
      · exact o_mulN (i := 2) (j := 1) (small1000 (by decide)) (small1000 (by decide))
    have s1 : exB T [.asgP [2, 4] [(.p2 .add (.p2 .mul (.v 2) (.k (.int 3))) (.p2 .mul (.p2 .mul (.k (.int 2)) (.v 8)) (.v 3))), (.p2 .mul (.v 4) (.k (.int 3)))]] [A, B, some (.int (lo : Nat)), some (.int 1), some (.int (be : Nat)), W1, W2, W3, some (bitD b), o9, o10] st =
        some (.nx, [A, B, some (.int ((lo * 3 + (if b then 2 else 0) : Nat) : Int)), some (.int 1), some (.int ((be * 3 : Nat) : Int)), W1, W2, W3, some (bitD b), o9, o10], st) := by
      simp only [exB, exS, evA, evW, evs, vD, List.getElem?_cons_succ, List.getElem?_cons_zero, m1, m2, m3, m4, opsI]
      cases b <;> simp
    have b8 : bindTg (.n 8) (bitD b) [A, B, some (.int (lo : Nat)), some (.int 1), some (.int (be : Nat)), W1, W2, W3, o8, o9, o10] = some [A, B, some (.int (lo : Nat)), some (.int 1), some (.int (be : Nat)), W1, W2, W3, some (bitD b), o9, o10] := rfl
    rw [b8]
    dsimp only
    rw [s1]
/-- doubling -/
theorem halves_loop {R : List (Option D)} (hR : R.length = 9) {e : Option D} : ∀ (items : List D) (h : Nat) (o10 : Option D), h * 2 ^ items.length < MB →
    ∃ r10, forLoop (fun d r s => match bindTg (.n 10) d r with
        | some r1 => exB T [.asg 9 (.p2 .mul (.v 9) (.k (.int 2)))] r1 s
        | none => none) (guardB []) items (R ++ [some (.int (h : Nat)), o10]) st = some (.nx, R ++ [some (.int ((h * 2 ^ items.length : Nat) : Int)), r10], st)
  | [], h, o10, _ => ⟨o10, by simp [forLoop, guard_nil]⟩
  | d :: r, h, o10, hb => by
    have e2 : h * 2 ^ (d :: r).length = h * 2 * 2 ^ r.length := by rw [List.length_cons, Nat.pow_succ]; grind
    rw [e2] at hb ⊢
    have h3 : h * 2 < MB := Nat.lt_of_le_of_lt (Nat.le_mul_of_pos_right _ (Nat.pow_pos (by decide))) hb
    obtain ⟨r10, ih⟩ := halves_loop hR (e := e) r (h * 2) (some d) hb
    refine ⟨r10, ?_⟩
    rw [← ih]
    rw [forLoop, guard_nil, if_pos rfl]
    have m1 : op2 .mul (.val (.int (h : Nat))) (.val (.int 2)) st = some (.val (.int ((h * 2 : Nat) : Int)), st) := o_mulN (by omega) (small1000 (by decide))
    match R, hR with
    | [a0, a1, a2, a3, a4, a5, a6, a7, a8], _ =>
      have b8 : bindTg (.n 10) d ([a0, a1, a2, a3, a4, a5, a6, a7, a8] ++ [some (.int (h : Nat)), o10]) = some [a0, a1, a2, a3, a4, a5, a6, a7, a8, some (.int (h : Nat)), some d] := rfl
      rw [b8]
      dsimp only
      simp only [exB, exS, evW, evs, vD, List.getElem?_cons_succ, List.getElem?_cons_zero, m1]
      rfl
end
end Px

end

section
set_option maxHeartbeats 2000000
/-! Px16: the law's lies, whole. -/
namespace Px
open Nx
abbrev nodeS : Nx.S := .for_ 0 [(.v 7)] (.n 8) [.asgP [2, 4] [(.p2 .add (.p2 .mul (.v 2) (.k (.int 3))) (.p2 .mul (.p2 .mul (.k (.int 2)) (.v 8)) (.v 3))), (.p2 .mul (.v 4) (.k (.int 3)))]]
abbrev rowP : Nx.S := .asgP [2, 4, 0] [(.p2 .add (.p2 .mul (.v 2) (.p1 .len (.v 6))) (.p2 .mul (.v 7) (.v 3))), (.p2 .mul (.v 4) (.p1 .len (.v 6))), (.p2 .idx (.v 6) (.v 7))]
abbrev mixP : Nx.S := .asgP [2, 4, 0] [(.p2 .add (.p2 .mul (.v 2) (.k (.int 3))) (.v 3)), (.p2 .mul (.v 4) (.k (.int 3))), (.p2 .idx (.v 6) (.p2 .mod (.p1 .int (.p1 .len (.v 7))) (.p1 .len (.v 6))))]
abbrev halfS : Nx.S := .for_ 3 [(.v 7)] (.n 10) [.asg 9 (.p2 .mul (.v 9) (.k (.int 2)))]
abbrev onP : Nx.S := .asgP [2, 4, 0] [(.p2 .add (.p2 .mul (.v 2) (.v 9)) (.ite (.p2 .eq (.v 5) (.k (.str "on"))) (.p2 .mul (.v 3) (.p2 .sub (.v 9) (.k (.int 2)))) (.v 3))), (.p2 .mul (.v 4) (.v 9)), (.v 6)]
abbrev lieBody : List Nx.S := [.asgT [5, 6] (.v 0), .asgT [7, 1] (.v 1), .ite (.p2 .eq (.v 5) (.k (.str "row"))) [rowP] [.ite (.p2 .eq (.v 5) (.k (.str "mix"))) [nodeS, mixP] [.asg 9 (.k (.int 2)), halfS, onP]]]
theorem lies_bodies : B_law_lies = [.asgP [2, 3, 4] [(.k (.int 0)), (.k (.int 1)), (.k (.int 1))], .wh (.p1 .not (.p1 (.isT "str") (.v 0))) lieBody, .ret (.tup [(.p2 .add (.p2 .mul (.k (.int 2)) (.v 2)) (.v 3)), (.p2 .mul (.k (.int 2)) (.v 4))])] := rfl
theorem walk_range1 {n : Int} {st : Sto} (h1 : n < 1000000) (h2 : -1000000 < n) : walkOf 3 [.val (.int n)] st = some (rangeD 0 n, []) := by
  unfold walkOf
  exact if_pos ⟨h1, h2⟩
theorem i_range {T : Calls} {a : C} {ρ : Rho} {st s1 : Sto} {n : Int} (h : evW T a ρ st = some (.val (.int n), s1)) (h1 : n < 1000000) (h2 : -1000000 < n) : iW T 3 [a] ρ st = some ((rangeD 0 n, []), s1) := by
  have e : evI T [a] ρ st = some ([.val (.int n)], s1) := by simp only [evI, h]
  unfold iW
  rw [e]
  dsimp only
  rw [walk_range1 h1 h2]
theorem lim {i : Nat} (h : i < 40) : (i : Int) < 1000000 ∧ (-1000000 : Int) < (i : Int) := ⟨by omega, by omega⟩
theorem one1000 : (1 : Int).natAbs < MB := small1000 (by decide)
theorem s_iteF2 {T : Calls} {c : C} {a b : List Nx.S} {ρ : Rho} {st st1 : Sto} (h : evW T c ρ st = some (.val (.bl false), st1)) : exS T (.ite c a b) ρ st = exB T b ρ st1 := by
  simp [exS, h, truth]
theorem b_one {T : Calls} {x : Nx.S} {ρ : Rho} {st : Sto} {fl : Fl} {ρ1 : Rho} {s1 : Sto} (h : exS T x ρ st = some (fl, ρ1, s1)) : exB T [x] ρ st = some (fl, ρ1, s1) := by
  cases fl <;> simp [exB, h]
section
variable {T : Calls} {st : Sto} {cs : List Nat}
theorem step_parts {t : TL} {a : AD} (w : Wf cs t) (h : Ok t a) : (stepP t a).2 ≤ P50 := by
  cases t with
  | lt c =>
    cases a <;> simp only [Ok] at h
    simp only [stepP]
    decide
  | row l =>
    cases a <;> simp only [Ok] at h
    have := w.2.1
    simp only [stepP]
    have : (100 : Nat) ≤ P50 := by decide
    omega
  | mix l =>
    cases a <;> simp only [Ok] at h
    rename_i bs r
    simp only [stepP]
    have h1 : 3 ^ (bs.length + 1) ≤ 3 ^ 6 := Nat.pow_le_pow_right (by decide) (by omega)
    have : (3 : Nat) ^ 6 ≤ P50 := by decide
    omega
  | on u =>
    cases a <;> simp only [Ok] at h
    simp only [stepP]
    exact Nat.pow_le_pow_right (by decide) (by omega)
  | fr u =>
    cases a <;> simp only [Ok] at h
    simp only [stepP]
    exact Nat.pow_le_pow_right (by decide) (by omega)
theorem lie_row {u : TL} {l : List TL} {a : AD} {lo be : Nat} (w : Wf cs (.row l)) (h : Ok (.row l) a) (ht : isLt (.row l) = false) (hn : nextT (.row l) a = some (u, restA a)) (hlo : lo + 1 ≤ be) (hb : be * P50 < MB) (o5 o6 o7 o8 o9 o10 : Option D) :
    ∃ r5 r6 r7 r8 r9 r10, exB T lieBody [some (enc (.row l)), some (encA a), some (.int (lo : Nat)), some (.int 1), some (.int (be : Nat)), o5, o6, o7, o8, o9, o10] st =
      some (.nx, [some (enc u), some (encA (restA a)), some (.int ((lo * (stepP (.row l) a).2 + (stepP (.row l) a).1 : Nat) : Int)), some (.int 1), some (.int ((be * (stepP (.row l) a).2 : Nat) : Int)), r5, r6, r7, r8, r9, r10], st) := by
  have hp := step_parts w h
  have pa := enc_pair h ht
  have big := p50_mb
  have hbe : be < MB := Nat.lt_of_le_of_lt (Nat.le_mul_of_pos_right _ (by decide)) hb
  have hbd : be * (stepP (.row l) a).2 < MB := Nat.lt_of_le_of_lt (Nat.mul_le_mul_left _ hp) hb
  rw [pa]
  cases a <;> simp only [Ok] at h
  rename_i i r
  obtain ⟨u', h1, h2⟩ := h
  have hi := (List.getElem?_eq_some_iff.mp h1).1
  have eu : u' = u := by simp [nextT, h1] at hn; exact hn.1
  subst eu
  have hll : (encL l).length = l.length := by rw [encL_map, List.length_map]
  have hl100 := w.2.1
  have h64 : (100 : Nat) < 2 ^ 64 := by decide
  have l64 : l.length < MB := small1000 (by omega)
  have i64 : i < MB := small1000 (by omega)
  have m1 : op2 .mul (.val (.int (lo : Nat))) (.val (.int ((encL l).length : Nat))) st = some (.val (.int ((lo * l.length : Nat) : Int)), st) := by rw [hll]; exact o_mulN (by omega) l64
  have m2 : op2 .mul (.val (.int (be : Nat))) (.val (.int ((encL l).length : Nat))) st = some (.val (.int ((be * l.length : Nat) : Int)), st) := by rw [hll]; exact o_mulN (by omega) l64
  have m3 : op2 .mul (.val (.int (i : Nat))) (.val (.int 1)) st = some (.val (.int ((i * 1 : Nat) : Int)), st) := o_mulN (j := 1) i64 (small1000 (by decide))
  have e : op2 .idx (.val (.tup (encL l))) (.val (.int (i : Nat))) st = some (.val (enc u'), st) := o_idx (at_nat (encL_get h1))
  refine ⟨some (.str "row"), some (.tup (encL l)), some (.int (i : Nat)), o8, o9, o10, ?_⟩
  simp only [headD, enc, restA, stepP]
  have a1 : exS T (.asgT [5, 6] (.v 0)) [some (.tup [.str "row", .tup (encL l)]), some (.tup [.int (i : Nat), encA r]), some (.int (lo : Nat)), some (.int 1), some (.int (be : Nat)), o5, o6, o7, o8, o9, o10] st = some (.nx, [some (.tup [.str "row", .tup (encL l)]), some (.tup [.int (i : Nat), encA r]), some (.int (lo : Nat)), some (.int 1), some (.int (be : Nat)), some (.str "row"), some (.tup (encL l)), o7, o8, o9, o10], st) := by
    simp [exS, evW, vD, bindTg]
  have a2 : exS T (.asgT [7, 1] (.v 1)) [some (.tup [.str "row", .tup (encL l)]), some (.tup [.int (i : Nat), encA r]), some (.int (lo : Nat)), some (.int 1), some (.int (be : Nat)), some (.str "row"), some (.tup (encL l)), o7, o8, o9, o10] st = some (.nx, [some (.tup [.str "row", .tup (encL l)]), some (encA r), some (.int (lo : Nat)), some (.int 1), some (.int (be : Nat)), some (.str "row"), some (.tup (encL l)), some (.int (i : Nat)), o8, o9, o10], st) := by
    simp [exS, evW, vD, bindTg]
  rw [b_nx a1, b_nx a2]
  refine b_one ((s_iteT (st1 := st) (by simp [evW, evs, vD, o_eqS])).trans (b_one ?_))
  simp only [exS, evA, evW, evs, vD, List.getElem?_cons_succ, List.getElem?_cons_zero, opsI, m1, m2, m3, e]
  simp
theorem lie_mix {u : TL} {l : List TL} {a : AD} {lo be : Nat} (w : Wf cs (.mix l)) (h : Ok (.mix l) a) (ht : isLt (.mix l) = false) (hn : nextT (.mix l) a = some (u, restA a)) (hlo : lo + 1 ≤ be) (hb : be * P50 < MB) (o5 o6 o7 o8 o9 o10 : Option D) :
    ∃ r5 r6 r7 r8 r9 r10, exB T lieBody [some (enc (.mix l)), some (encA a), some (.int (lo : Nat)), some (.int 1), some (.int (be : Nat)), o5, o6, o7, o8, o9, o10] st =
      some (.nx, [some (enc u), some (encA (restA a)), some (.int ((lo * (stepP (.mix l) a).2 + (stepP (.mix l) a).1 : Nat) : Int)), some (.int 1), some (.int ((be * (stepP (.mix l) a).2 : Nat) : Int)), r5, r6, r7, r8, r9, r10], st) := by
  have hp := step_parts w h
  have pa := enc_pair h ht
  have big := p50_mb
  have hbe : be < MB := Nat.lt_of_le_of_lt (Nat.le_mul_of_pos_right _ (by decide)) hb
  have hbd : be * (stepP (.mix l) a).2 < MB := Nat.lt_of_le_of_lt (Nat.mul_le_mul_left _ hp) hb
  rw [pa]
  cases a <;> simp only [Ok] at h
  rename_i bs r
  obtain ⟨h5, u', h1, h2⟩ := h
  have eu : u' = u := by simp [nextT, h1] at hn; exact hn.1
  subst eu
  have hll : (encL l).length = l.length := by rw [encL_map, List.length_map]
  have hl0 : 0 < l.length := by have := w.1; omega
  simp only [stepP] at hbd
  have hbd2 : be * 3 ^ bs.length * 3 < MB := by rw [Nat.pow_succ, ← Nat.mul_assoc] at hbd; exact hbd
  have hbd3 : be * 3 ^ bs.length < MB := by omega
  obtain ⟨r8, eb⟩ := bits_loop (T := T) (st := st) (A := some (.tup [.str "mix", .tup (encL l)])) (B := some (encA r)) (W1 := some (.str "mix")) (W2 := some (.tup (encL l))) (W3 := some (.tup (bs.map bitD))) (o9 := o9) (o10 := o10) bs lo be o8 hlo (by omega)
  have hlf := loF_lt bs lo be hlo
  have m1 : op2 .mul (.val (.int (loF bs lo : Nat))) (.val (.int 3)) st = some (.val (.int ((loF bs lo * 3 : Nat) : Int)), st) := o_mulN (by omega) (small1000 (by decide))
  have m2 : op2 .mul (.val (.int ((be * 3 ^ bs.length : Nat) : Int))) (.val (.int 3)) st = some (.val (.int ((be * 3 ^ bs.length * 3 : Nat) : Int)), st) := o_mulN (by omega) (small1000 (by decide))
  have md : op2 .mod (.val (.int ((bs.map bitD).length : Nat))) (.val (.int ((encL l).length : Nat))) st = some (.val (.int ((bs.length % l.length : Nat) : Int)), st) := by
    rw [hll, List.length_map, o_mod (by omega)]
    simp
  have e : op2 .idx (.val (.tup (encL l))) (.val (.int ((bs.length % l.length : Nat) : Int))) st = some (.val (enc u'), st) := o_idx (at_nat (encL_get h1))
  refine ⟨some (.str "mix"), some (.tup (encL l)), some (.tup (bs.map bitD)), r8, o9, o10, ?_⟩
  simp only [headD, enc, restA, stepP]
  have a1 : exS T (.asgT [5, 6] (.v 0)) [some (.tup [.str "mix", .tup (encL l)]), some (.tup [.tup (bs.map bitD), encA r]), some (.int (lo : Nat)), some (.int 1), some (.int (be : Nat)), o5, o6, o7, o8, o9, o10] st = some (.nx, [some (.tup [.str "mix", .tup (encL l)]), some (.tup [.tup (bs.map bitD), encA r]), some (.int (lo : Nat)), some (.int 1), some (.int (be : Nat)), some (.str "mix"), some (.tup (encL l)), o7, o8, o9, o10], st) := by
    simp [exS, evW, vD, bindTg]
  have a2 : exS T (.asgT [7, 1] (.v 1)) [some (.tup [.str "mix", .tup (encL l)]), some (.tup [.tup (bs.map bitD), encA r]), some (.int (lo : Nat)), some (.int 1), some (.int (be : Nat)), some (.str "mix"), some (.tup (encL l)), o7, o8, o9, o10] st = some (.nx, [some (.tup [.str "mix", .tup (encL l)]), some (encA r), some (.int (lo : Nat)), some (.int 1), some (.int (be : Nat)), some (.str "mix"), some (.tup (encL l)), some (.tup (bs.map bitD)), o8, o9, o10], st) := by
    simp [exS, evW, vD, bindTg]
  have a3 := (s_for0 (T := T) (a := .v 7) (tg := .n 8) (b := [.asgP [2, 4] [(.p2 .add (.p2 .mul (.v 2) (.k (.int 3))) (.p2 .mul (.p2 .mul (.k (.int 2)) (.v 8)) (.v 3))), (.p2 .mul (.v 4) (.k (.int 3)))]]) (ρ := [some (.tup [.str "mix", .tup (encL l)]), some (encA r), some (.int (lo : Nat)), some (.int 1), some (.int (be : Nat)), some (.str "mix"), some (.tup (encL l)), some (.tup (bs.map bitD)), o8, o9, o10]) (st := st) (st1 := st) (ds := bs.map bitD) (w_v rfl)).trans eb
  rw [b_nx a1, b_nx a2]
  refine b_one ((s_iteF2 (st1 := st) (by simp [evW, evs, vD, o_eqS, p10'])).trans (b_one ((s_iteT (st1 := st) (by simp [evW, evs, vD, o_eqS])).trans ?_)))
  rw [b_nx a3]
  refine b_one ?_
  have c1 : ((loF bs lo * 3 : Nat) : Int) + 1 = ((lo * 3 ^ (bs.length + 1) + nodeP bs : Nat) : Int) := by
    have := loF_eq bs lo
    omega
  have c2 : be * 3 ^ bs.length * 3 = be * 3 ^ (bs.length + 1) := by rw [Nat.pow_succ, Nat.mul_assoc]
  rw [c2] at m2
  simp only [exS, evA, evW, evs, vD, List.getElem?_cons_succ, List.getElem?_cons_zero, opsI, m1, m2, md, e, c1]
  simp
theorem lie_on {u : TL} {v : TL} {a : AD} {lo be : Nat} (w : Wf cs (.on v)) (h : Ok (.on v) a) (ht : isLt (.on v) = false) (hn : nextT (.on v) a = some (u, restA a)) (hlo : lo + 1 ≤ be) (hb : be * P50 < MB) (o5 o6 o7 o8 o9 o10 : Option D) :
    ∃ r5 r6 r7 r8 r9 r10, exB T lieBody [some (enc (.on v)), some (encA a), some (.int (lo : Nat)), some (.int 1), some (.int (be : Nat)), o5, o6, o7, o8, o9, o10] st =
      some (.nx, [some (enc u), some (encA (restA a)), some (.int ((lo * (stepP (.on v) a).2 + (stepP (.on v) a).1 : Nat) : Int)), some (.int 1), some (.int ((be * (stepP (.on v) a).2 : Nat) : Int)), r5, r6, r7, r8, r9, r10], st) := by
  have hp := step_parts w h
  have pa := enc_pair h ht
  have big := p50_mb
  have hbe : be < MB := Nat.lt_of_le_of_lt (Nat.le_mul_of_pos_right _ (by decide)) hb
  have hbd : be * (stepP (.on v) a).2 < MB := Nat.lt_of_le_of_lt (Nat.mul_le_mul_left _ hp) hb
  have mulN : ∀ a b : Nat, a < MB → b < MB → op2 .mul (.val (.int (a : Nat))) (.val (.int (b : Nat))) st = some (.val (.int ((a * b : Nat) : Int)), st) := fun a b h1 h2 => o_mulN h1 h2
  have mul1 : ∀ b : Int, b.natAbs < MB → op2 .mul (.val (.int 1)) (.val (.int b)) st = some (.val (.int (1 * b)), st) := fun b h2 => o_mul one1000 h2
  rw [pa]
  cases a <;> simp only [Ok] at h
  rename_i i r
  have eu : v = u := by simp [nextT] at hn; exact hn.1
  subst eu
  obtain ⟨h40, h2⟩ := h
  have hl : (rangeD 0 (i : Nat)).length = i := by simp [rangeD]
  have hal := halves_loop (T := T) (st := st) (R := [some (.tup [.str "on", enc v]), some (encA r), some (.int (lo : Nat)), some (.int 1), some (.int (be : Nat)), some (.str "on"), some (enc v), some (.int (i : Nat)), o8]) rfl (e := none) (rangeD 0 (i : Nat)) 2 o10
  rw [hl] at hal
  have g2 : 2 ≤ 2 * 2 ^ i := by have := Nat.one_le_two_pow (n := i); omega
  have hx : 2 ^ (i + 1) = 2 * 2 ^ i := by rw [Nat.pow_succ, Nat.mul_comm]
  simp only [headD, enc, restA, stepP, hx] at hbd hp ⊢
  generalize 2 * 2 ^ i = x at *
  generalize MB = M at *
  generalize P50 = P at *
  clear hx pa hn w ht hb
  obtain ⟨r10, eb⟩ := hal (by omega)
  refine ⟨some (.str "on"), some (enc v), some (.int (i : Nat)), o8, some (.int (x : Nat)), r10, ?_⟩
  have ir : iW T 3 [(.v 7)] [some (.tup [.str "on", enc v]), some (encA r), some (.int (lo : Nat)), some (.int 1), some (.int (be : Nat)), some (.str "on"), some (enc v), some (.int (i : Nat)), o8, some (.int 2), o10] st = some ((rangeD 0 (i : Nat), []), st) := i_range (w_v rfl) (lim h40).1 (lim h40).2
  have a0 : exS T (.asg 9 (.k (.int 2))) [some (.tup [.str "on", enc v]), some (encA r), some (.int (lo : Nat)), some (.int 1), some (.int (be : Nat)), some (.str "on"), some (enc v), some (.int (i : Nat)), o8, o9, o10] st = some (.nx, [some (.tup [.str "on", enc v]), some (encA r), some (.int (lo : Nat)), some (.int 1), some (.int (be : Nat)), some (.str "on"), some (enc v), some (.int (i : Nat)), o8, some (.int 2), o10], st) := by
    simp [exS, evs]
  have a3 : exS T halfS [some (.tup [.str "on", enc v]), some (encA r), some (.int (lo : Nat)), some (.int 1), some (.int (be : Nat)), some (.str "on"), some (enc v), some (.int (i : Nat)), o8, some (.int 2), o10] st = some (.nx, [some (.tup [.str "on", enc v]), some (encA r), some (.int (lo : Nat)), some (.int 1), some (.int (be : Nat)), some (.str "on"), some (enc v), some (.int (i : Nat)), o8, some (.int (x : Nat)), r10], st) := by
    rw [for_eq, ir]
    exact eb
  have a1 : exS T (.asgT [5, 6] (.v 0)) [some (.tup [.str "on", enc v]), some (.tup [.int (i : Nat), encA r]), some (.int (lo : Nat)), some (.int 1), some (.int (be : Nat)), o5, o6, o7, o8, o9, o10] st = some (.nx, [some (.tup [.str "on", enc v]), some (.tup [.int (i : Nat), encA r]), some (.int (lo : Nat)), some (.int 1), some (.int (be : Nat)), some (.str "on"), some (enc v), o7, o8, o9, o10], st) := by
    simp [exS, evW, vD, bindTg]
  have a2 : exS T (.asgT [7, 1] (.v 1)) [some (.tup [.str "on", enc v]), some (.tup [.int (i : Nat), encA r]), some (.int (lo : Nat)), some (.int 1), some (.int (be : Nat)), some (.str "on"), some (enc v), o7, o8, o9, o10] st = some (.nx, [some (.tup [.str "on", enc v]), some (encA r), some (.int (lo : Nat)), some (.int 1), some (.int (be : Nat)), some (.str "on"), some (enc v), some (.int (i : Nat)), o8, o9, o10], st) := by
    simp [exS, evW, vD, bindTg]
  clear eb hal ir
  rw [b_nx a1, b_nx a2]
  refine b_one ((s_iteF2 (st1 := st) (by simp [evW, evs, vD, o_eqS, p4', p7'])).trans (b_one ((s_iteF2 (st1 := st) (by simp [evW, evs, vD, o_eqS, p6', p9'])).trans ?_)))
  rw [b_nx a0, b_nx a3]
  refine b_one ?_
  have m1 := mulN lo x (by omega) (by omega)
  have m2 := mulN be x (by omega) (by omega)
  have m3 := mul1 ((x : Int) - 2) (by omega)
  have su := opsI.2.1 st (x : Int) 2
  have qq : decide (("on" : PySem.Str) = "on") = true := by decide
  have fin : ((lo * x : Nat) : Int) + 1 * ((x : Int) - 2) = ((lo * x + (x - 2) : Nat) : Int) := by omega
  have ad : op2 .add (.val (.int ((lo * x : Nat) : Int))) (.val (.int (1 * ((x : Int) - 2)))) st = some (.val (.int ((lo * x + (x - 2) : Nat) : Int)), st) := by rw [opsI.1, fin]
  clear a0 a1 a2 a3 mulN mul1 fin
  simp only [exS, evA, evW, evs, vD, List.getElem?_cons_succ, List.getElem?_cons_zero, o_eqS, decide_true, qq, m1, m2, m3, su, ad]
  simp only [List.length_cons, List.length_nil, List.zip_cons_cons, List.zip_nil_right, List.foldl_cons, List.foldl_nil, List.set_cons_succ, List.set_cons_zero, if_true]
theorem lie_fr {u : TL} {v : TL} {a : AD} {lo be : Nat} (w : Wf cs (.fr v)) (h : Ok (.fr v) a) (ht : isLt (.fr v) = false) (hn : nextT (.fr v) a = some (u, restA a)) (hlo : lo + 1 ≤ be) (hb : be * P50 < MB) (o5 o6 o7 o8 o9 o10 : Option D) :
    ∃ r5 r6 r7 r8 r9 r10, exB T lieBody [some (enc (.fr v)), some (encA a), some (.int (lo : Nat)), some (.int 1), some (.int (be : Nat)), o5, o6, o7, o8, o9, o10] st =
      some (.nx, [some (enc u), some (encA (restA a)), some (.int ((lo * (stepP (.fr v) a).2 + (stepP (.fr v) a).1 : Nat) : Int)), some (.int 1), some (.int ((be * (stepP (.fr v) a).2 : Nat) : Int)), r5, r6, r7, r8, r9, r10], st) := by
  have hp := step_parts w h
  have pa := enc_pair h ht
  have big := p50_mb
  have hbe : be < MB := Nat.lt_of_le_of_lt (Nat.le_mul_of_pos_right _ (by decide)) hb
  have hbd : be * (stepP (.fr v) a).2 < MB := Nat.lt_of_le_of_lt (Nat.mul_le_mul_left _ hp) hb
  have mulN : ∀ a b : Nat, a < MB → b < MB → op2 .mul (.val (.int (a : Nat))) (.val (.int (b : Nat))) st = some (.val (.int ((a * b : Nat) : Int)), st) := fun a b h1 h2 => o_mulN h1 h2
  have mul1 : ∀ b : Int, b.natAbs < MB → op2 .mul (.val (.int 1)) (.val (.int b)) st = some (.val (.int (1 * b)), st) := fun b h2 => o_mul one1000 h2
  rw [pa]
  cases a <;> simp only [Ok] at h
  rename_i i r
  have eu : v = u := by simp [nextT] at hn; exact hn.1
  subst eu
  obtain ⟨h40, h2⟩ := h
  have hl : (rangeD 0 (i : Nat)).length = i := by simp [rangeD]
  have hal := halves_loop (T := T) (st := st) (R := [some (.tup [.str "from", enc v]), some (encA r), some (.int (lo : Nat)), some (.int 1), some (.int (be : Nat)), some (.str "from"), some (enc v), some (.int (i : Nat)), o8]) rfl (e := none) (rangeD 0 (i : Nat)) 2 o10
  rw [hl] at hal
  have g2 : 2 ≤ 2 * 2 ^ i := by have := Nat.one_le_two_pow (n := i); omega
  have hx : 2 ^ (i + 1) = 2 * 2 ^ i := by rw [Nat.pow_succ, Nat.mul_comm]
  simp only [headD, enc, restA, stepP, hx] at hbd hp ⊢
  generalize 2 * 2 ^ i = x at *
  generalize MB = M at *
  generalize P50 = P at *
  clear hx pa hn w ht hb
  obtain ⟨r10, eb⟩ := hal (by omega)
  refine ⟨some (.str "from"), some (enc v), some (.int (i : Nat)), o8, some (.int (x : Nat)), r10, ?_⟩
  have ir : iW T 3 [(.v 7)] [some (.tup [.str "from", enc v]), some (encA r), some (.int (lo : Nat)), some (.int 1), some (.int (be : Nat)), some (.str "from"), some (enc v), some (.int (i : Nat)), o8, some (.int 2), o10] st = some ((rangeD 0 (i : Nat), []), st) := i_range (w_v rfl) (lim h40).1 (lim h40).2
  have a0 : exS T (.asg 9 (.k (.int 2))) [some (.tup [.str "from", enc v]), some (encA r), some (.int (lo : Nat)), some (.int 1), some (.int (be : Nat)), some (.str "from"), some (enc v), some (.int (i : Nat)), o8, o9, o10] st = some (.nx, [some (.tup [.str "from", enc v]), some (encA r), some (.int (lo : Nat)), some (.int 1), some (.int (be : Nat)), some (.str "from"), some (enc v), some (.int (i : Nat)), o8, some (.int 2), o10], st) := by
    simp [exS, evs]
  have a3 : exS T halfS [some (.tup [.str "from", enc v]), some (encA r), some (.int (lo : Nat)), some (.int 1), some (.int (be : Nat)), some (.str "from"), some (enc v), some (.int (i : Nat)), o8, some (.int 2), o10] st = some (.nx, [some (.tup [.str "from", enc v]), some (encA r), some (.int (lo : Nat)), some (.int 1), some (.int (be : Nat)), some (.str "from"), some (enc v), some (.int (i : Nat)), o8, some (.int (x : Nat)), r10], st) := by
    rw [for_eq, ir]
    exact eb
  have a1 : exS T (.asgT [5, 6] (.v 0)) [some (.tup [.str "from", enc v]), some (.tup [.int (i : Nat), encA r]), some (.int (lo : Nat)), some (.int 1), some (.int (be : Nat)), o5, o6, o7, o8, o9, o10] st = some (.nx, [some (.tup [.str "from", enc v]), some (.tup [.int (i : Nat), encA r]), some (.int (lo : Nat)), some (.int 1), some (.int (be : Nat)), some (.str "from"), some (enc v), o7, o8, o9, o10], st) := by
    simp [exS, evW, vD, bindTg]
  have a2 : exS T (.asgT [7, 1] (.v 1)) [some (.tup [.str "from", enc v]), some (.tup [.int (i : Nat), encA r]), some (.int (lo : Nat)), some (.int 1), some (.int (be : Nat)), some (.str "from"), some (enc v), o7, o8, o9, o10] st = some (.nx, [some (.tup [.str "from", enc v]), some (encA r), some (.int (lo : Nat)), some (.int 1), some (.int (be : Nat)), some (.str "from"), some (enc v), some (.int (i : Nat)), o8, o9, o10], st) := by
    simp [exS, evW, vD, bindTg]
  clear eb hal ir
  rw [b_nx a1, b_nx a2]
  refine b_one ((s_iteF2 (st1 := st) (by simp [evW, evs, vD, o_eqS, p4', p7'])).trans (b_one ((s_iteF2 (st1 := st) (by simp [evW, evs, vD, o_eqS, p6', p9'])).trans ?_)))
  rw [b_nx a0, b_nx a3]
  refine b_one ?_
  have m1 := mulN lo x (by omega) (by omega)
  have m2 := mulN be x (by omega) (by omega)
  have m3 := mul1 ((x : Int) - 2) (by omega)
  have su := opsI.2.1 st (x : Int) 2
  have qq : decide (("from" : PySem.Str) = "on") = false := by decide
  have fin : ((lo * x : Nat) : Int) + 1 = ((lo * x + 1 : Nat) : Int) := by omega
  have ad : op2 .add (.val (.int ((lo * x : Nat) : Int))) (.val (.int 1)) st = some (.val (.int ((lo * x + 1 : Nat) : Int)), st) := by rw [opsI.1, fin]
  clear a0 a1 a2 a3 mulN mul1 fin
  simp only [exS, evA, evW, evs, vD, List.getElem?_cons_succ, List.getElem?_cons_zero, o_eqS, decide_true, qq, m1, m2, m3, su, ad]
  simp only [List.length_cons, List.length_nil, List.zip_cons_cons, List.zip_nil_right, List.foldl_cons, List.foldl_nil, List.set_cons_succ, List.set_cons_zero, if_true]
/-- one step inwards -/
theorem lie_step {t u : TL} {a : AD} {lo be : Nat} (w : Wf cs t) (h : Ok t a) (ht : isLt t = false) (hn : nextT t a = some (u, restA a)) (hlo : lo + 1 ≤ be) (hb : be * P50 < MB) (o5 o6 o7 o8 o9 o10 : Option D) :
    ∃ r5 r6 r7 r8 r9 r10, exB T lieBody [some (enc t), some (encA a), some (.int (lo : Nat)), some (.int 1), some (.int (be : Nat)), o5, o6, o7, o8, o9, o10] st =
      some (.nx, [some (enc u), some (encA (restA a)), some (.int ((lo * (stepP t a).2 + (stepP t a).1 : Nat) : Int)), some (.int 1), some (.int ((be * (stepP t a).2 : Nat) : Int)), r5, r6, r7, r8, r9, r10], st) := by
  cases t with
  | lt c => cases ht
  | row l => exact lie_row w h ht hn hlo hb o5 o6 o7 o8 o9 o10
  | mix l => exact lie_mix w h ht hn hlo hb o5 o6 o7 o8 o9 o10
  | on v => exact lie_on w h ht hn hlo hb o5 o6 o7 o8 o9 o10
  | fr v => exact lie_fr w h ht hn hlo hb o5 o6 o7 o8 o9 o10
end
end Px

end

section
set_option maxHeartbeats 2000000
/-! Px17: the law's lies, its ahead. -/
namespace Px
open Nx
section
variable {tab : Nat → Option Fn} {k : Nat} {st : Sto} {cs : List Nat}
theorem lie_loop (T : Calls) : ∀ (n : Nat) (t : TL) (a : AD) (lo be m : Nat) (o5 o6 o7 o8 o9 o10 : Option D), dep t ≤ n → Wf cs t → Ok t a → lo + 1 ≤ be → be * P50 ^ n < MB → n ≤ m →
    ∃ c0 c1 r5 r6 r7 r8 r9 r10, whLoop (tsW T (.p1 .not (.p1 (.isT "str") (.v 0)))) (fun r s => exB T lieBody r s) m [some (enc t), some (encA a), some (.int (lo : Nat)), some (.int 1), some (.int (be : Nat)), o5, o6, o7, o8, o9, o10] st =
      some (.nx, [c0, c1, some (.int ((liesN n t a lo be).1 : Nat)), some (.int 1), some (.int ((liesN n t a lo be).2 : Nat)), r5, r6, r7, r8, r9, r10], st) ∧ (liesN n t a lo be).1 + 1 ≤ (liesN n t a lo be).2 ∧ (liesN n t a lo be).2 < MB
  | 0, t, a, lo, be, m, _, _, _, _, _, _, hd, _, _, _, _, _ => by have := dep_pos t; omega
  | n + 1, t, a, lo, be, m, o5, o6, o7, o8, o9, o10, hd, w, h, hlo, hb, hm => by
    obtain ⟨m', rfl⟩ : ∃ m', m = m' + 1 := ⟨m - 1, by omega⟩
    have eS : op1 (.isT "str") (.val (enc t)) st = some (.val (.bl (isLt t)), st) := by rw [op_str (tyOk_enc t), isS_enc]
    have p1 : 1 ≤ P50 ^ n := Nat.one_le_pow _ _ (by decide)
    have pe : be * P50 ^ (n + 1) = be * P50 * P50 ^ n := by rw [Nat.pow_succ]; grind
    have hb1 : be * P50 < MB := Nat.lt_of_le_of_lt (Nat.le_mul_of_pos_right _ (by omega)) (pe ▸ hb)
    have hb0 : be < MB := Nat.lt_of_le_of_lt (Nat.le_mul_of_pos_right _ (by decide)) hb1
    cases hlt : isLt t with
    | true =>
      rw [hlt] at eS
      have z : liesN (n + 1) t a lo be = (lo, be) := by
        cases t with
        | lt c => simp [liesN, nextT]
        | _ => cases hlt
      rw [z]
      refine ⟨some (enc t), some (encA a), o5, o6, o7, o8, o9, o10, ?_, hlo, hb0⟩
      rw [whLoop]
      simp [tsW, evW, evs, vD, eS, opsI]
    | false =>
      rw [hlt] at eS
      obtain ⟨u, a1, a2, a3, a4⟩ := ok_step h hlt
      obtain ⟨s1, s2⟩ := ok_stepOk w h hlt
      rw [a1] at s2
      obtain ⟨u', hi, _, wu⟩ := inner_ok w s1
      have e : u' = u := by rw [hi] at s2; simpa using s2
      subst e
      obtain ⟨r5, r6, r7, r8, r9, r10, es⟩ := lie_step (T := T) (st := st) w h hlt a1 hlo hb1 o5 o6 o7 o8 o9 o10
      have z : liesN (n + 1) t a lo be = liesN n u' (restA a) (lo * (stepP t a).2 + (stepP t a).1) (be * (stepP t a).2) := by simp [liesN, a1]
      have hlo' : lo * (stepP t a).2 + (stepP t a).1 + 1 ≤ be * (stepP t a).2 := by
        have h1 : (lo + 1) * (stepP t a).2 ≤ be * (stepP t a).2 := Nat.mul_le_mul_right _ hlo
        have h2 : (lo + 1) * (stepP t a).2 = lo * (stepP t a).2 + (stepP t a).2 := by grind
        omega
      have hb' : be * (stepP t a).2 * P50 ^ n < MB := by
        refine Nat.lt_of_le_of_lt (Nat.mul_le_mul_right _ (Nat.mul_le_mul_left _ (step_parts w h))) ?_
        rw [← pe]
        exact hb
      obtain ⟨c0, c1, q5, q6, q7, q8, q9, q10, ih, ih2, ih3⟩ := lie_loop T n u' (restA a) _ _ m' r5 r6 r7 r8 r9 r10 (by omega) wu a2 hlo' hb' (by omega)
      rw [z]
      refine ⟨c0, c1, q5, q6, q7, q8, q9, q10, ?_, ih2, ih3⟩
      rw [← ih]
      have ts : tsW T (.p1 .not (.p1 (.isT "str") (.v 0))) [some (enc t), some (encA a), some (.int (lo : Nat)), some (.int 1), some (.int (be : Nat)), o5, o6, o7, o8, o9, o10] st = some (true, st) := by
        simp [tsW, evW, evs, vD, eS, opsI]
      rw [whLoop, ts]
      dsimp only
      rw [es]
theorem mb_big : P50 ^ 18 < MB := by decide +kernel
theorem x_law_lies {i : Nat} (h : tab i = some ⟨2, 11, B_law_lies⟩) {t : TL} {a : AD} (hd : dep t ≤ 18) (w : Wf cs t) (ha : Ok t a) :
    evF tab (k + 1) i [enc t, encA a] st = some (.tup [.int ((2 * (liesN 18 t a 0 1).1 + 1 : Nat) : Int), .int ((2 * (liesN 18 t a 0 1).2 : Nat) : Int)], st) ∧ (liesN 18 t a 0 1).1 + 1 ≤ (liesN 18 t a 0 1).2 ∧ (liesN 18 t a 0 1).2 < MB := by
  obtain ⟨c0, c1, r5, r6, r7, r8, r9, r10, e, e2, e3⟩ := lie_loop (st := st) (evF tab k) 18 t a 0 1 rounds none none none none none none hd w ha (Nat.le_refl _) (by rw [Nat.one_mul]; exact mb_big) (by unfold rounds; omega)
  refine ⟨?_, e2, e3⟩
  have ew := (wh_eq (T := evF tab k) (c := .p1 .not (.p1 (.isT "str") (.v 0))) (b := lieBody) (ρ := [some (enc t), some (encA a), some (.int ((0 : Nat) : Int)), some (.int 1), some (.int ((1 : Nat) : Int)), none, none, none, none, none, none]) (st := st)).trans e
  rw [run_fn h rfl, lies_bodies]
  have a0 : exS (evF tab k) (.asgP [2, 3, 4] [(.k (.int 0)), (.k (.int 1)), (.k (.int 1))]) [some (enc t), some (encA a), none, none, none, none, none, none, none, none, none] st = some (.nx, [some (enc t), some (encA a), some (.int ((0 : Nat) : Int)), some (.int 1), some (.int ((1 : Nat) : Int)), none, none, none, none, none, none], st) := by
    simp [exS, evA, evs]
  show retOf (exB (evF tab k) _ [some (enc t), some (encA a), none, none, none, none, none, none, none, none, none] st) = _
  rw [b_nx a0, b_nx ew]
  have b2 : (2 : Nat) < MB := small1000 (by decide)
  generalize (liesN 18 t a 0 1).1 = x at *
  generalize (liesN 18 t a 0 1).2 = y at *
  have m1 : op2 .mul (.val (.int 2)) (.val (.int (x : Nat))) st = some (.val (.int ((2 * x : Nat) : Int)), st) := o_mulN (i := 2) b2 (by omega)
  have m2 : op2 .mul (.val (.int 2)) (.val (.int (y : Nat))) st = some (.val (.int ((2 * y : Nat) : Int)), st) := o_mulN (i := 2) b2 (by omega)
  simp only [exB, exS, evA, evW, evs, vD, List.getElem?_cons_succ, List.getElem?_cons_zero, m1, m2, opsI]
  simp [retOf, PySem.sizeLine_eq, evs]
end
end Px

end

section
set_option maxHeartbeats 2000000
/-! Px18: the law's ahead is the program's. -/
namespace Px
open Nx
def MC : Nat := 2 ^ 1002
theorem mc_eq : MC = 2 ^ 1002 := rfl
theorem mb_mc : 4 * MB = MC := by
  rw [mb_eq, mc_eq]
  have : (2 : Nat) ^ 1002 = 2 ^ 1000 * 2 ^ 2 := Nat.pow_add 2 1000 2
  omega
theorem o_mulC {st : Sto} {i j : Nat} (hi : i < MC) (hj : j < MC) : op2 .mul (.val (.int (i : Nat))) (.val (.int (j : Nat))) st = some (.val (.int ((i * j : Nat) : Int)), st) := by
  rw [mc_eq] at hi hj
  have h1 := log2_le hi
  have h2 := log2_le hj
  have h : mulOk (i : Int) (j : Int) = true := by
    unfold mulOk
    refine decide_eq_true ?_
    rw [Int.natAbs_natCast, Int.natAbs_natCast]
    omega
  simp [op2, h, vI, vD]
section
variable {tab : Nat → Option Fn} {k : Nat} {st : Sto} {cs : List Nat}
theorem x_law_is_ahead {i j : Nat} (hj : tab j = some ⟨2, 11, B_law_lies⟩) (h : tab i = some ⟨3, 5, B_law_is_ahead j⟩) {t : TL} {a b : AD} (hd : dep t ≤ 18) (w : Wf cs t) (ha : Ok t a) (hb : Ok t b) :
    evF tab (k + 2) i [enc t, encA a, encA b] st = some (.bl (aheadN 18 t a b), st) := by
  obtain ⟨e1, l1, m1⟩ := x_law_lies (k := k) (st := st) hj hd w ha
  obtain ⟨e2, l2, m2⟩ := x_law_lies (k := k) (st := st) hj hd w hb
  rw [ahead_lies 18 t a b hd ha hb, run_fn h rfl]
  have q := mb_mc
  generalize (liesN 18 t a 0 1).1 = x at *
  generalize (liesN 18 t a 0 1).2 = y at *
  generalize (liesN 18 t b 0 1).1 = x' at *
  generalize (liesN 18 t b 0 1).2 = y' at *
  have n1 : op2 .mul (.val (.int ((2 * x + 1 : Nat) : Int))) (.val (.int ((2 * y' : Nat) : Int))) st = some (.val (.int (((2 * x + 1) * (2 * y') : Nat) : Int)), st) := o_mulC (by omega) (by omega)
  have n2 : op2 .mul (.val (.int ((2 * x' + 1 : Nat) : Int))) (.val (.int ((2 * y : Nat) : Int))) st = some (.val (.int (((2 * x' + 1) * (2 * y) : Nat) : Int)), st) := o_mulC (by omega) (by omega)
  have fin : decide ((((2 * x + 1) * (2 * y') : Nat) : Int) < (((2 * x' + 1) * (2 * y) : Nat) : Int)) = decide ((2 * x + 1) * y' < (2 * x' + 1) * y) := by
    have z1 : (2 * x + 1) * (2 * y') = 2 * ((2 * x + 1) * y') := by grind
    have z2 : (2 * x' + 1) * (2 * y) = 2 * ((2 * x' + 1) * y) := by grind
    rw [z1, z2]
    exact decide_eq_decide.mpr (by omega)
  have a0 : exS (evF tab (k + 1)) (.asgP [3, 4] [(.call j [(.v 0), (.v 1)] [0, 1]), (.call j [(.v 0), (.v 2)] [0, 1])]) [some (enc t), some (encA a), some (encA b), none, none] st = some (.nx, [some (enc t), some (encA a), some (encA b), some (.tup [.int ((2 * x + 1 : Nat) : Int), .int ((2 * y : Nat) : Int)]), some (.tup [.int ((2 * x' + 1 : Nat) : Int), .int ((2 * y' : Nat) : Int)])], st) := by
    simp [exS, evA, evW, permute, evs, vD, e1, e2]
  show retOf (exB (evF tab (k + 1)) (B_law_is_ahead j) [some (enc t), some (encA a), some (encA b), none, none] st) = _
  unfold B_law_is_ahead
  rw [b_nx a0]
  simp only [exB, exS, evW, evs, vD, List.getElem?_cons_succ, List.getElem?_cons_zero, opsX, n1, n2, opsI, fin]
  rfl
end
end Px

end

section
set_option maxHeartbeats 2000000
/-! Px19: the package's own defs, asked of a timeline: is_address, is_path, letter_at, is_ahead. -/
namespace Px
open Nx
/-- what is known of the package's defs of places -/
structure PlaceAt (tab : Nat → Option Fn) (i0 i1 i2 i3 i4 i5 im i7 i8 i9 i10 i11 i12 i13 i14 i15 i16 i17 i18 i19 i20 i21 i22 : Nat) : Prop where
  M : MeasAt tab i4 i2 im i5 i3
  P : StepAt tab i0 i1 i9 i10 i11
  t7 : tab i7 = some ⟨1, 2, B_is_timeline_value im⟩
  t8 : tab i8 = some ⟨1, 1, B_want_timeline i7⟩
  t12 : tab i12 = some ⟨2, 3, B_is_path_value i10 i11⟩
  t13 : tab i13 = some ⟨2, 2, B_is_address_value i2 i10 i13 i11⟩
  t14 : tab i14 = some ⟨2, 2, B_letter_by i11⟩
  t15 : tab i15 = some ⟨2, 4, B_is_node_ahead⟩
  t16 : tab i16 = some ⟨3, 3, B_is_ahead_by i16 i11 i15⟩
  t17 : tab i17 = some ⟨2, 2, B_want_place i8 i13⟩
  t18 : tab i18 = some ⟨2, 2, B_want_other i13⟩
  t19 : tab i19 = some ⟨2, 2, B_is_address i8 i13⟩
  t20 : tab i20 = some ⟨2, 2, B_is_path i8 i12⟩
  t21 : tab i21 = some ⟨2, 2, B_letter_at i17 i14⟩
  t22 : tab i22 = some ⟨3, 3, B_is_ahead i17 i18 i16⟩
def pathB (t : TL) (v : D) : Bool := match v with
  | .tup ds => (pathT t ds).isSome
  | _ => false
/-- a timeline as the laws draw it -/
structure Drawn (cs : List Nat) (t : TL) : Prop where
  al : Alpha cs
  few : cs.length ≤ 8
  wf : Wf cs t
  sz : size t ≤ 100
  dp : dep t ≤ 16
section
variable {tab : Nat → Option Fn} {i0 i1 i2 i3 i4 i5 im i7 i8 i9 i10 i11 i12 i13 i14 i15 i16 i17 i18 i19 i20 i21 i22 : Nat} {k : Nat} {st : Sto} {v : D} {cs : List Nat} {t : TL}
variable (A : PlaceAt tab i0 i1 i2 i3 i4 i5 im i7 i8 i9 i10 i11 i12 i13 i14 i15 i16 i17 i18 i19 i20 i21 i22) (W : Drawn cs t)
include A W
theorem p_want (k : Nat) (st : Sto) : ∃ st', evF tab (k + 20) i8 [enc t] st = some (.non, st') ∧ Ex st st' := by
  obtain ⟨st', e, x⟩ := x_want_timeline (k := k + 16 - dep t) A.M W.al W.few A.t7 A.t8 W.wf W.sz W.dp st
  have hd := W.dp
  rw [show k + 16 - dep t + dep t + 4 = k + 20 by omega] at e
  exact ⟨st', e, x⟩
theorem p_addr (k : Nat) (st : Sto) (hv : Py st 60 v) : evF tab (k + 20) i13 [enc t, v] st = some (.bl (letterT 16 t v).isSome, st) := by
  have e := x_is_address (k := k) (cs := cs) A.P A.M.t2 A.t13 16 t v 60 W.dp W.wf hv (Nat.le_refl _)
  rw [addr_letter] at e
  exact e
theorem p_is_address (hv : Py st 60 v) : ∃ st', evF tab (k + 21) i19 [enc t, v] st = some (.bl (letterT 16 t v).isSome, st') ∧ Ex st st' := by
  obtain ⟨st', e, x⟩ := p_want A W k st
  refine ⟨st', ?_, x⟩
  have e2 := p_addr A W k st' (hv.ex x)
  rw [run_fn A.t19 rfl]
  simp [B_is_address, exB, exS, evA, evW, permute, evs, vD, e, e2, retOf]
theorem p_is_path (hv : Py st 60 v) : ∃ st', evF tab (k + 21) i20 [enc t, v] st = some (.bl (pathB t v), st') ∧ Ex st st' := by
  obtain ⟨st', e, x⟩ := p_want A W k st
  refine ⟨st', ?_, x⟩
  have e2 : evF tab (k + 20) i12 [enc t, v] st' = some (.bl (pathB t v), st') := by
    have q := x_is_path (k := k + 15) A.P A.t12 W.wf (hv.ex x)
    cases v <;> exact q
  rw [run_fn A.t20 rfl]
  simp [B_is_path, exB, exS, evA, evW, permute, evs, vD, e, e2, retOf]
theorem p_want_place (hv : Py st 60 v) (hl : (letterT 16 t v).isSome = true) : ∃ st', evF tab (k + 21) i17 [enc t, v] st = some (.non, st') ∧ Ex st st' := by
  obtain ⟨st', e, x⟩ := p_want A W k st
  refine ⟨st', ?_, x⟩
  have e2 := p_addr A W k st' (hv.ex x)
  rw [hl] at e2
  rw [run_fn A.t17 rfl]
  simp [B_want_place, exB, exS, evA, evW, permute, evs, vD, opsI, e, e2, retOf]
theorem p_letter_at {c : Nat} (hv : Py st 60 v) (hl : letterT 16 t v = some c) : ∃ st', evF tab (k + 22) i21 [enc t, v] st = some (.str ⟨#[c]⟩, st') ∧ Ex st st' := by
  obtain ⟨st', e, x⟩ := p_want_place (k := k) A W hv (by rw [hl]; rfl)
  refine ⟨st', ?_, x⟩
  have e2 := x_letter_by (k := k + 19) (st := st') (v := v) A.P A.t14 W.wf hl (by omega)
  rw [run_fn A.t21 rfl]
  simp [B_letter_at, exB, exS, evA, evW, permute, evs, vD, opsI, e, e2, retOf]
theorem p_is_ahead {a b : AD} (ha : Ok t a) (hb : Ok t b) : ∃ st', evF tab (k + 22) i22 [enc t, encA a, encA b] st = some (.bl (aheadN 18 t a b), st') ∧ Ex st st' := by
  have hd := W.dp
  have pa : ∀ s : Sto, Py s 60 (encA a) := fun s => ⟨pyA a, py_encA s a 60 (by have := ok_len ha; omega)⟩
  have pb : ∀ s : Sto, Py s 60 (encA b) := fun s => ⟨pyA b, py_encA s b 60 (by have := ok_len hb; omega)⟩
  have la : (letterT 16 t (encA a)).isSome = true := by rw [← addr_letter]; exact ok_addr 16 t a W.dp W.wf ha
  have lb : (letterT 16 t (encA b)).isSome = true := by rw [← addr_letter]; exact ok_addr 16 t b W.dp W.wf hb
  obtain ⟨st', e, x⟩ := p_want_place (k := k) (st := st) A W (pa st) la
  refine ⟨st', ?_, x⟩
  have e2 : evF tab (k + 21) i18 [enc t, encA b] st' = some (.non, st') := by
    have q := p_addr A W k st' (pb st')
    rw [lb] at q
    rw [run_fn A.t18 rfl]
    simp [B_want_other, exB, exS, evA, evW, permute, evs, vD, opsI, q, retOf]
  have e3 := x_is_ahead_by (k := k + 2) (st := st') A.P A.t15 A.t16 18 t a b (by omega) W.wf ha hb
  simp only [show k + 2 + 18 + 1 = k + 21 by omega] at e3
  rw [run_fn A.t22 rfl]
  simp [B_is_ahead, exB, exS, evA, evW, permute, evs, vD, opsI, e, e2, e3, retOf]
end
end Px

end

section
set_option maxHeartbeats 2000000
/-! Px20: the pot and its draws. -/
namespace Px
open Nx
/-- all but the pot stays -/
def Gw (lp : Nat) (st st' : Sto) : Prop := ∀ (l : Nat) (o : MO), l ≠ lp → st[l]? = some o → st'[l]? = some o
theorem Gw.refl (lp : Nat) (st : Sto) : Gw lp st st := fun _ _ _ h => h
theorem Gw.trans {lp : Nat} {a b c : Sto} (h : Gw lp a b) (g : Gw lp b c) : Gw lp a c := fun l o n e => g l o n (h l o n e)
theorem Ex.gw {lp : Nat} {a b : Sto} (h : Ex a b) : Gw lp a b := fun l o _ e => h l o e
/-- the pot: what is left of the cell, and the mixed number -/
def Pot (lp : Nat) (st : Sto) : Prop := ∃ a b : Int, st[lp]? = some (.lst [.int a, .int b]) ∧ 0 ≤ a ∧ 0 ≤ b ∧ b < 2 ^ 32
theorem Pot.ex {lp : Nat} {st st' : Sto} (h : Pot lp st) (x : Ex st st') : Pot lp st' := by
  obtain ⟨a, b, e, r⟩ := h
  exact ⟨a, b, x lp _ e, r⟩
theorem Gw.put {lp : Nat} {st : Sto} {o : MO} : Gw lp st (st.set lp o) := fun l u n e => by
  rw [List.getElem?_set_ne (fun q => n q.symm)]
  exact e
/-- a law's own numbers -/
structure Nums (c1 n1 m1 m2 q : Int) : Prop where
  c : 0 ≤ c1 ∧ c1 < 2 ^ 40
  n : 0 ≤ n1
  m1 : 0 < m1 ∧ m1 ≤ 2 ^ 32
  m2 : 0 < m2
  q : 0 < q ∧ q < 2 ^ 40
theorem small_int {i : Int} (h0 : 0 ≤ i) (h : i < 2 ^ 64) : i.natAbs < MB := small1000 (by omega)
section
variable {tab : Nat → Option Fn} {k : Nat} {st : Sto} {lp : Nat}
theorem x_draw {i : Nat} {c1 n1 m1 m2 q many : Int} (h : tab i = some ⟨2, 3, B_law_draw c1 n1 m1 m2 q⟩) (N : Nums c1 n1 m1 m2 q) (P : Pot lp st) (h0 : 0 < many) (h1 : many < 1073741824) :
    ∃ d st', evF tab (k + 1) i [.ref lp, .int many] st = some (.int d, st') ∧ 0 ≤ d ∧ d < many ∧ Gw lp st st' ∧ Pot lp st' := by
  obtain ⟨a, b, hp, ha, hb, hb2⟩ := P
  have hlen : lp < st.length := (List.getElem?_eq_some_iff.mp hp).1
  have e0 : op2 .idx (.val (.ref lp)) (.val (.int 0)) st = some (.val (.int a), st) := o_idxL hp (at0 _ _)
  have e1 : op2 .idx (.val (.ref lp)) (.val (.int 1)) st = some (.val (.int b), st) := o_idxL hp (at1 _ _ _)
  rw [run_fn h rfl]
  by_cases hz : 0 < a
  · have dv : op2 .divmod (.val (.int a)) (.val (.int many)) st = some (.val (.tup [.int (a / many), .int (a % many)]), st) := by
      simp [op2, h0, h1, vD]
    have si : setIdx (.val (.ref lp)) (.val (.int 0)) (.int (a / many)) st = some (st.set lp (.lst [.int (a / many), .int b])) := by
      have hx : L2.ixN 2 0 = some 0 := by decide
      simp [setIdx, hp, hx]
    refine ⟨a % many, st.set lp (.lst [.int (a / many), .int b]), ?_, Int.emod_nonneg _ (by omega), Int.emod_lt_of_pos _ h0, Gw.put, a / many, b, by simp [hlen], Int.ediv_nonneg ha (by omega), hb, hb2⟩
    simp [B_law_draw, exB, exS, evA, evW, evs, vD, opsI, e0, hz, dv, si, retOf]
  · have mul1 : op2 .mul (.val (.int b)) (.val (.int c1)) st = some (.val (.int (b * c1)), st) := o_mul (small_int hb (by omega)) (small_int N.c.1 (by have := N.c.2; omega))
    have md1 : op2 .mod (.val (.int (b * c1 + n1))) (.val (.int m1)) st = some (.val (.int ((b * c1 + n1) % m1)), st) := o_mod N.m1.1
    generalize hb' : (b * c1 + n1) % m1 = b' at *
    have b0 : 0 ≤ b' := by rw [← hb']; exact Int.emod_nonneg _ (by have := N.m1.1; omega)
    have b1 : b' < 2 ^ 32 := by have := Int.emod_lt_of_pos (b * c1 + n1) N.m1.1; have := N.m1.2; omega
    have si : setIdx (.val (.ref lp)) (.val (.int 1)) (.int b') st = some (st.set lp (.lst [.int a, .int b'])) := by
      have hx : L2.ixN 2 1 = some 1 := by decide
      simp [setIdx, hp, hx]
    have hp' : (st.set lp (.lst [.int a, .int b']))[lp]? = some (.lst [.int a, .int b']) := by simp [hlen]
    have e2 : op2 .idx (.val (.ref lp)) (.val (.int 1)) (st.set lp (.lst [.int a, .int b'])) = some (.val (.int b'), st.set lp (.lst [.int a, .int b'])) := o_idxL hp' (at1 _ _ _)
    have mul2 : op2 .mul (.val (.int b')) (.val (.int b')) (st.set lp (.lst [.int a, .int b'])) = some (.val (.int (b' * b')), st.set lp (.lst [.int a, .int b'])) := o_mul (small_int b0 (by omega)) (small_int b0 (by omega))
    have md2 : op2 .mod (.val (.int (b' * b'))) (.val (.int m2)) (st.set lp (.lst [.int a, .int b'])) = some (.val (.int (b' * b' % m2)), st.set lp (.lst [.int a, .int b'])) := o_mod N.m2
    have fd : op2 .fdiv (.val (.int (b' * b' % m2))) (.val (.int q)) (st.set lp (.lst [.int a, .int b'])) = some (.val (.int (b' * b' % m2 / q)), st.set lp (.lst [.int a, .int b'])) := by
      have l9 : q.natAbs.log2 < 9000 := by
        have : q.natAbs < 2 ^ 40 := by have := N.q.1; have := N.q.2; omega
        have := log2_le this
        omega
      simp [op2, N.q.1, l9, vI, vD]
    have md3 : op2 .mod (.val (.int (b' * b' % m2 / q))) (.val (.int many)) (st.set lp (.lst [.int a, .int b'])) = some (.val (.int (b' * b' % m2 / q % many)), st.set lp (.lst [.int a, .int b'])) := o_mod h0
    refine ⟨b' * b' % m2 / q % many, st.set lp (.lst [.int a, .int b']), ?_, Int.emod_nonneg _ (by omega), Int.emod_lt_of_pos _ h0, Gw.put, a, b', hp', ha, b0, b1⟩
    simp only [B_law_draw, exB, exS, evA, evW, evs, vD, List.map_cons, List.map_nil, List.getElem?_cons_succ, List.getElem?_cons_zero, List.cons_append, List.nil_append, opsI, e0, e1, mul1, md1, hz, decide_false, si, e2, mul2, md2, fd, md3, retOf]
end
end Px

end

section
set_option maxHeartbeats 2000000
/-! Px21: picking one of a list by a draw. -/
namespace Px
open Nx
theorem at_lt {α : Type} {xs : List α} {i : Int} (h0 : 0 ≤ i) (h : i < xs.length) : ∃ x, L2.atI xs i = some x ∧ x ∈ xs := by
  have hn : i.toNat < xs.length := by omega
  refine ⟨xs[i.toNat], ?_, List.getElem_mem _⟩
  unfold L2.atI L2.ixN
  rw [if_pos h0, if_pos h]
  simp [hn]
section
variable {tab : Nat → Option Fn} {k : Nat} {st : Sto} {lp : Nat}
/-- one of a list of the store -/
theorem x_pick {i j l : Nat} {c1 n1 m1 m2 q : Int} {xs : List D} (h : tab i = some ⟨2, 2, B_law_pick j⟩) (hd : tab j = some ⟨2, 3, B_law_draw c1 n1 m1 m2 q⟩) (N : Nums c1 n1 m1 m2 q) (P : Pot lp st)
    (hl : st[l]? = some (.lst xs)) (ne : l ≠ lp) (h0 : xs ≠ []) (h1 : xs.length < 1073741824) :
    ∃ d st', evF tab (k + 2) i [.ref lp, .ref l] st = some (d, st') ∧ d ∈ xs ∧ Gw lp st st' ∧ Pot lp st' := by
  have hp : 0 < xs.length := List.length_pos_iff.mpr h0
  obtain ⟨d, st', e, d0, d1, g, P'⟩ := x_draw (k := k) (many := xs.length) hd N P (by omega) (by omega)
  obtain ⟨x, ex, mx⟩ := at_lt d0 d1
  have len : op1 .len (.val (.ref l)) st = some (.val (.int xs.length), st) := by simp [op1, hl, vI, vD]
  have ix : op2 .idx (.val (.ref l)) (.val (.int d)) st' = some (.val x, st') := o_idxL (g l _ ne hl) ex
  refine ⟨x, st', ?_, mx, g, P'⟩
  rw [run_fn h rfl]
  simp [B_law_pick, exB, exS, evW, evA, permute, evs, vD, len, ix, e, retOf]
/-- one of a list that never changes, or of a tuple -/
theorem x_pickL {i j : Nat} {c1 n1 m1 m2 q : Int} {xs : List D} (h : tab i = some ⟨2, 2, B_law_pick j⟩) (hd : tab j = some ⟨2, 3, B_law_draw c1 n1 m1 m2 q⟩) (N : Nums c1 n1 m1 m2 q) (P : Pot lp st)
    (h0 : xs ≠ []) (h1 : xs.length < 1073741824) :
    ∃ d st', evF tab (k + 2) i [.ref lp, .tup xs] st = some (d, st') ∧ d ∈ xs ∧ Gw lp st st' ∧ Pot lp st' := by
  have hp : 0 < xs.length := List.length_pos_iff.mpr h0
  obtain ⟨d, st', e, d0, d1, g, P'⟩ := x_draw (k := k) (many := xs.length) hd N P (by omega) (by omega)
  obtain ⟨x, ex, mx⟩ := at_lt d0 d1
  have len : op1 .len (.val (.tup xs)) st = some (.val (.int xs.length), st) := by simp [op1, vI, vD]
  have ix : op2 .idx (.val (.tup xs)) (.val (.int d)) st' = some (.val x, st') := by simp [op2, ex, vD]
  refine ⟨x, st', ?_, mx, g, P'⟩
  rw [run_fn h rfl]
  simp [B_law_pick, exB, exS, evW, evA, permute, evs, vD, len, ix, e, retOf]
end
end Px

end

section
set_option maxHeartbeats 2000000
/-! Px22: the pot is laid. -/
namespace Px
open Nx
section
variable {tab : Nat → Option Fn} {k : Nat} {st : Sto}
/-- numbers of a pot -/
structure PotNums (e1 n0 m1 c1 n1 m2 : Int) : Prop where
  e1 : 0 ≤ e1 ∧ e1 < 2 ^ 40
  n0 : 0 ≤ n0
  m1 : 0 < m1 ∧ m1 ≤ 2 ^ 40
  c1 : 0 ≤ c1 ∧ c1 < 2 ^ 40
  n1 : 0 ≤ n1
  m2 : 0 < m2 ∧ m2 < 2 ^ 32
theorem pow18 : op2 .pow (.val (.int 10)) (.val (.int 18)) st = some (.val (.int 1000000000000000000), st) := by
  simp [op2, vI, vD]
theorem pot_end {e1 n0 m1 c1 n1 m2 w : Int} {i n : Nat} {ρ0 : Option D} (N : PotNums e1 n0 m1 c1 n1 m2) (hi : i < 2 ^ 20) (hw : 0 ≤ w)
    {T : Calls} :
    ∃ a b : Int, retOf (exB T [.ret (.lst [(.p2 .max2 (.k (.int 0)) (.p2 .sub (.v 2) (.p2 .pow (.k (.int 10)) (.k (.int 18))))), (.p2 .add (.p2 .mod (.p1 .int (.p2 .add (.p2 .add (.p2 .mul (.p2 .mod (.p1 .int (.v 2)) (.k (.int m1))) (.k (.int c1))) (.p2 .mul (.k (.int e1)) (.v 1))) (.k (.int n1)))) (.k (.int m2))) (.k (.int 1)))])] [ρ0, some (.int (i : Nat)), some (.int w)] st)
      = some (.ref st.length, st ++ [.lst [.int a, .int b]]) ∧ 0 ≤ a ∧ 0 ≤ b ∧ b < 2 ^ 32 := by
  have md1 : op2 .mod (.val (.int w)) (.val (.int m1)) st = some (.val (.int (w % m1)), st) := o_mod N.m1.1
  have u0 : 0 ≤ w % m1 := Int.emod_nonneg _ (by have := N.m1.1; omega)
  have u1 : w % m1 < 2 ^ 40 := by have := Int.emod_lt_of_pos w N.m1.1; have := N.m1.2; omega
  have ml1 : op2 .mul (.val (.int (w % m1))) (.val (.int c1)) st = some (.val (.int (w % m1 * c1)), st) := o_mul (small_int u0 (by omega)) (small_int N.c1.1 (by have := N.c1.2; omega))
  have ml2 : op2 .mul (.val (.int e1)) (.val (.int (i : Nat))) st = some (.val (.int (e1 * (i : Nat))), st) := o_mul (small_int N.e1.1 (by have := N.e1.2; omega)) (small_int (by omega) (by omega))
  have md2 : op2 .mod (.val (.int (w % m1 * c1 + e1 * (i : Nat) + n1))) (.val (.int m2)) st = some (.val (.int ((w % m1 * c1 + e1 * (i : Nat) + n1) % m2)), st) := o_mod N.m2.1
  have b0 : 0 ≤ (w % m1 * c1 + e1 * (i : Nat) + n1) % m2 := Int.emod_nonneg _ (by have := N.m2.1; omega)
  have b1 := Int.emod_lt_of_pos (w % m1 * c1 + e1 * (i : Nat) + n1) N.m2.1
  have mx : op2 .max2 (.val (.int 0)) (.val (.int (w - 1000000000000000000))) st = some (.val (.int (max 0 (w - 1000000000000000000))), st) := by
    simp [op2, vI, vD]
    split <;> omega
  have ii : op1 .int (.val (.int w)) st = some (.val (.int w), st) := by simp [op1, vI, vD]
  have i2 : op1 .int (.val (.int (w % m1 * c1 + e1 * (i : Nat) + n1))) st = some (.val (.int (w % m1 * c1 + e1 * (i : Nat) + n1)), st) := by simp [op1, vI, vD]
  refine ⟨max 0 (w - 1000000000000000000), (w % m1 * c1 + e1 * (i : Nat) + n1) % m2 + 1, ?_, by omega, by omega, by have := N.m2.2; omega⟩
  simp only [exB, exS, evA, evW, evs, vD, vI, List.map_cons, List.map_nil, List.getElem?_cons_succ, List.getElem?_cons_zero, opsI, pow18, mx, ii, md1, ml1, ml2, i2, md2, retOf, List.length_cons, List.length_nil, PySem.sizeLine_eq]
  rfl
theorem x_pot {f : Nat} {e1 n0 m1 c1 n1 m2 : Int} {ns : List Int} {i : Nat} (h : tab f = some ⟨2, 3, B_law_pot e1 n0 m1 c1 n1 m2⟩) (N : PotNums e1 n0 m1 c1 n1 m2) (hi : i < 2 ^ 20) :
    ∃ a b : Int, evF tab (k + 1) f [.lis (ns.map .int), .int (i : Nat)] st = some (.ref st.length, st ++ [.lst [.int a, .int b]]) ∧ 0 ≤ a ∧ 0 ≤ b ∧ b < 2 ^ 32 := by
  have ln : op1 .len (.val (.lis (ns.map .int))) st = some (.val (.int (ns.length : Nat)), st) := by simp [op1, vI, vD]
  have lt : op2 .lt (.val (.int (i : Nat))) (.val (.int (ns.length : Nat))) st = some (.val (.bl (decide (i < ns.length))), st) := by simp [opsI, vB]
  have ml2 : op2 .mul (.val (.int e1)) (.val (.int (i : Nat))) st = some (.val (.int (e1 * (i : Nat))), st) := o_mul (small_int N.e1.1 (by have := N.e1.2; omega)) (small_int (by omega) (by omega))
  have pos : 0 ≤ e1 * (i : Int) := Int.mul_nonneg N.e1.1 (by omega)
  rw [run_fn h rfl]
  by_cases hl : i < ns.length
  · have ix : op2 .idx (.val (.lis (ns.map .int))) (.val (.int (i : Nat))) st = some (.val (.int ns[i]), st) := by
      have : L2.atI (ns.map D.int) (i : Int) = some (.int ns[i]) := at_nat (by simp [hl])
      simp [op2, this, vD]
    have ab : op1 .abs (.val (.int ns[i])) st = some (.val (.int (ns[i].natAbs : Nat)), st) := by
      simp [op1, vI, vD]
      split <;> omega
    obtain ⟨a, b, e, r⟩ := pot_end (st := st) (ρ0 := some (.lis (ns.map .int))) (n := 0) (w := (ns[i].natAbs : Nat)) (T := evF tab k) N hi (by omega)
    refine ⟨a, b, ?_, r⟩
    refine Eq.trans ?_ e
    unfold B_law_pot
    refine congrArg retOf (b_nx ?_)
    simp [exS, evW, evs, vD, ln, lt, hl, ix, ab]
  · obtain ⟨a, b, e, r⟩ := pot_end (st := st) (ρ0 := some (.lis (ns.map .int))) (n := 0) (w := e1 * (i : Nat) + n0) (T := evF tab k) N hi (by have := N.n0; omega)
    refine ⟨a, b, ?_, r⟩
    refine Eq.trans ?_ e
    unfold B_law_pot
    refine congrArg retOf (b_nx ?_)
    simp [exS, evW, evs, vD, ln, lt, hl, ml2, opsI]
end
end Px

end

section
set_option maxHeartbeats 2000000
/-! Px23: what is made of drawn parts. -/
namespace Px
open Nx
section
variable {tab : Nat → Option Fn} {k : Nat} {st : Sto}
theorem x_all_words {f : Nat} {vs : List D} {n : Nat} (h : tab f = some ⟨n, n, B_law_all_words⟩) (hv : vs.length = n) :
    evF tab (k + 1) f vs st = some (.ref st.length, st ++ [.lst [.str "on", .str "from", .str "mix", .str "on", .str "from"]]) := by
  rw [run_fn h hv]
  simp [B_law_all_words, exB, exS, evW, evA, evs, vD, retOf, PySem.sizeLine_eq]
end
end Px

end

section
set_option maxHeartbeats 2000000
/-! Px24: what holds behind a run, whatever is drawn: rules for simp. -/
namespace Px
open Nx
open PySem (sizeLine)
/-- the run comes to an end, of which Q holds -/
def Wp {α : Type} (r : Option α) (Q : α → Prop) : Prop := ∃ a, r = some a ∧ Q a
theorem Wp.mono {α : Type} {r : Option α} {P Q : α → Prop} (h : Wp r P) (g : ∀ a, P a → Q a) : Wp r Q := h.elim fun a q => ⟨a, q.1, g a q.2⟩
theorem wp_some {α : Type} {a : α} {Q : α → Prop} : Wp (some a) Q ↔ Q a := ⟨fun ⟨_, e, q⟩ => by cases e; exact q, fun q => ⟨a, rfl, q⟩⟩
theorem Wp.of {α : Type} {r : Option α} {a : α} {Q : α → Prop} (h : r = some a) (q : Q a) : Wp r Q := ⟨a, h, q⟩
/-- a branch by a truth value -/
def Br (t : Option Bool) (A B : Prop) : Prop := match t with
  | some true => A
  | some false => B
  | none => False
theorem br_t {A B : Prop} : Br (some true) A B ↔ A := Iff.rfl
theorem br_f {A B : Prop} : Br (some false) A B ↔ B := Iff.rfl
theorem br_b {b : Bool} {A B : Prop} : Br (some b) A B ↔ (b = true → A) ∧ (b = false → B) := by cases b <;> simp [Br]
/-- what comes behind a statement -/
def Nxt (r : Fl × Rho × Sto) (A : Rho → Sto → Prop) (Q : Fl × Rho × Sto → Prop) : Prop := match r with
  | (.nx, ρ, s) => A ρ s
  | r => Q r
def RetQ (r : Fl × Rho × Sto) (Q : D × Sto → Prop) : Prop := match r with
  | (.rt d, _, s) => Q (d, s)
  | (.nx, _, s) => Q (.non, s)
  | _ => False
section
variable {T : Calls} {ρ : Rho} {st : Sto} {Q : W × Sto → Prop} {a b c cc ce : C} {as : List C}
theorem wp_k {d : D} : Wp (evW T (.k d) ρ st) Q ↔ Q (.val d, st) := by rw [evW]; exact wp_some
theorem wp_v {i : Nat} : Wp (evW T (.v i) ρ st) Q ↔ Wp (ρ[i]?) fun o => Wp o fun d => Q (.val d, st) := by
  rw [evW]
  cases ρ[i]? with
  | none => simp [Wp]
  | some o => cases o <;> simp [Wp, vD]
theorem wp_p1 {o : P1} : Wp (evW T (.p1 o a) ρ st) Q ↔ Wp (evW T a ρ st) fun x => Wp (op1 o x.1 x.2) Q := by
  rw [evW]
  cases evW T a ρ st <;> simp [Wp]
theorem wp_p2 {o : P2} : Wp (evW T (.p2 o a b) ρ st) Q ↔ Wp (evW T a ρ st) fun x => Wp (evW T b ρ x.2) fun y => Wp (op2 o x.1 y.1 y.2) Q := by
  rw [evW]
  cases evW T a ρ st with
  | none => simp [Wp]
  | some p => obtain ⟨x, s⟩ := p; dsimp only; rw [wp_some]; cases evW T b ρ s <;> simp [Wp]
theorem wp_p3 {o : P3} : Wp (evW T (.p3 o a b c) ρ st) Q ↔ Wp (evW T a ρ st) fun x => Wp (evW T b ρ x.2) fun y => Wp (evW T c ρ y.2) fun z => Wp (op3 o x.1 y.1 z.1 z.2) Q := by
  rw [evW]
  cases evW T a ρ st with
  | none => simp [Wp]
  | some p =>
    obtain ⟨x, s⟩ := p
    dsimp only
    rw [wp_some]
    cases evW T b ρ s with
    | none => simp [Wp]
    | some p => obtain ⟨y, s⟩ := p; dsimp only; rw [wp_some]; cases evW T c ρ s <;> simp [Wp]
theorem wp_m1 {r : Rc} {o : P2} : Wp (evW T (.m1 r o a b) ρ st) Q ↔ Wp (evW T a ρ st) fun x => rcOk r x.1 x.2 = true ∧ Wp (evW T b ρ x.2) fun y => Wp (op2 o x.1 y.1 y.2) Q := by
  rw [evW]
  cases evW T a ρ st with
  | none => simp [Wp]
  | some p =>
    obtain ⟨x, s⟩ := p
    dsimp only
    rw [wp_some]
    split
    · rename_i h
      simp only [h, true_and]
      cases evW T b ρ s <;> simp [Wp]
    · rename_i h
      simp [Wp, h]
theorem wp_and : Wp (evW T (.and a b) ρ st) Q ↔ Wp (evW T a ρ st) fun x => Br (truth x.2 x.1) (Wp (evW T b ρ x.2) Q) (Q x) := by
  rw [evW]
  cases evW T a ρ st with
  | none => simp [Wp]
  | some p =>
    obtain ⟨x, s⟩ := p
    dsimp only
    rw [wp_some]
    cases truth s x with
    | none => simp [Wp, Br]
    | some t => cases t <;> simp [Wp, Br]
theorem wp_or : Wp (evW T (.or a b) ρ st) Q ↔ Wp (evW T a ρ st) fun x => Br (truth x.2 x.1) (Q x) (Wp (evW T b ρ x.2) Q) := by
  rw [evW]
  cases evW T a ρ st with
  | none => simp [Wp]
  | some p =>
    obtain ⟨x, s⟩ := p
    dsimp only
    rw [wp_some]
    cases truth s x with
    | none => simp [Wp, Br]
    | some t => cases t <;> simp [Wp, Br]
theorem wp_ite : Wp (evW T (.ite c a b) ρ st) Q ↔ Wp (evW T c ρ st) fun x => Br (truth x.2 x.1) (Wp (evW T a ρ x.2) Q) (Wp (evW T b ρ x.2) Q) := by
  rw [evW]
  cases evW T c ρ st with
  | none => simp [Wp]
  | some p =>
    obtain ⟨x, s⟩ := p
    dsimp only
    rw [wp_some]
    cases truth s x with
    | none => simp [Wp, Br]
    | some t => cases t <;> simp [Wp, Br]
theorem wp_tup : Wp (evW T (.tup as) ρ st) Q ↔ Wp (evA T as ρ st) fun x => x.1.length ≤ sizeLine ∧ Q (.val (.tup x.1), x.2) := by
  rw [evW]
  cases evA T as ρ st with
  | none => simp [Wp]
  | some p => obtain ⟨x, s⟩ := p; dsimp only; rw [wp_some]; split <;> rename_i h <;> simp [Wp, h, vD]
theorem wp_lst : Wp (evW T (.lst as) ρ st) Q ↔ Wp (evA T as ρ st) fun x => x.1.length ≤ sizeLine ∧ Q (.new x.1, x.2) := by
  rw [evW]
  cases evA T as ρ st with
  | none => simp [Wp]
  | some p => obtain ⟨x, s⟩ := p; dsimp only; rw [wp_some]; split <;> rename_i h <;> simp [Wp, h]
theorem wp_call {f : Nat} {perm : List Nat} : Wp (evW T (.call f as perm) ρ st) Q ↔ Wp (evA T as ρ st) fun x => Wp (permute perm x.1) fun es => Wp (T f es x.2) fun y => Q (.val y.1, y.2) := by
  rw [evW]
  cases evA T as ρ st with
  | none => simp [Wp]
  | some p =>
    obtain ⟨x, s⟩ := p
    dsimp only
    rw [wp_some]
    cases permute perm x with
    | none => simp [Wp]
    | some es => dsimp only; rw [wp_some]; cases T f es s <;> simp [Wp, vD]
theorem wp_comp {kind : Nat} {tg : Tg} : Wp (evW T (.comp kind as tg cc ce) ρ st) Q ↔ Wp (iW T kind as ρ st) fun p => Wp (compLoop (turnF T tg cc ce ρ) (guardB p.1.2) p.1.1 p.2) fun y => Q (.new y.1, y.2) := by
  rw [comp_eq]
  cases iW T kind as ρ st with
  | none => simp [Wp]
  | some p =>
    obtain ⟨x, s⟩ := p
    dsimp only
    rw [wp_some]
    cases compLoop (turnF T tg cc ce ρ) (guardB x.2) x.1 s <;> simp [Wp]
theorem wp_a0 {Q : List D × Sto → Prop} : Wp (evA T [] ρ st) Q ↔ Q ([], st) := by rw [evA]; exact wp_some
theorem wp_a1 {Q : List D × Sto → Prop} : Wp (evA T (a :: as) ρ st) Q ↔ Wp (evW T a ρ st) fun x => Wp (evA T as ρ (settle x.1 x.2).2) fun y => Q ((settle x.1 x.2).1 :: y.1, y.2) := by
  rw [evA]
  cases evW T a ρ st with
  | none => simp [Wp]
  | some p => obtain ⟨x, s⟩ := p; dsimp only; rw [wp_some]; cases evA T as ρ (settle x s).2 <;> simp [Wp]
theorem wp_iW {kind : Nat} {Q : Walked × Sto → Prop} : Wp (iW T kind as ρ st) Q ↔ Wp (evI T as ρ st) fun x => Wp (walkOf kind x.1 x.2) fun w => Q (w, x.2) := by
  unfold iW
  cases evI T as ρ st with
  | none => simp [Wp]
  | some p => obtain ⟨x, s⟩ := p; dsimp only; rw [wp_some]; cases walkOf kind x s <;> simp [Wp]
theorem wp_i0 {Q : List W × Sto → Prop} : Wp (evI T [] ρ st) Q ↔ Q ([], st) := by rw [evI]; exact wp_some
theorem wp_i1 {Q : List W × Sto → Prop} : Wp (evI T (a :: as) ρ st) Q ↔ Wp (evW T a ρ st) fun x => Wp (evI T as ρ x.2) fun y => Q (x.1 :: y.1, y.2) := by
  rw [evI]
  cases evW T a ρ st with
  | none => simp [Wp]
  | some p => obtain ⟨x, s⟩ := p; dsimp only; rw [wp_some]; cases evI T as ρ s <;> simp [Wp]
end
section
variable {T : Calls} {ρ : Rho} {st : Sto} {Q : Fl × Rho × Sto → Prop} {e a b c o i : C} {as : List C} {x y : List Nx.S}
theorem wp_b0 : Wp (exB T [] ρ st) Q ↔ Q (.nx, ρ, st) := by rw [exB]; exact wp_some
theorem wp_b1 {s : Nx.S} : Wp (exB T (s :: x) ρ st) Q ↔ Wp (exS T s ρ st) fun r => Nxt r (fun ρ1 s1 => Wp (exB T x ρ1 s1) Q) Q := by
  rw [exB]
  cases exS T s ρ st with
  | none => simp [Wp]
  | some p =>
    obtain ⟨fl, ρ1, s1⟩ := p
    rw [wp_some]
    cases fl <;> simp [Nxt, Wp]
theorem wp_asg {j : Nat} : Wp (exS T (.asg j e) ρ st) Q ↔ Wp (evW T e ρ st) fun x => Q (.nx, ρ.set j (some (settle x.1 x.2).1), (settle x.1 x.2).2) := by
  rw [exS]
  cases evW T e ρ st <;> simp [Wp]
/-- a value that stands for itself -/
def IsV (w : W) (P : D → Prop) : Prop := match w with
  | .val d => P d
  | _ => False
theorem isV {d : D} {P : D → Prop} : IsV (.val d) P ↔ P d := Iff.rfl
theorem wp_asgT {is : List Nat} : Wp (exS T (.asgT is e) ρ st) Q ↔ Wp (evW T e ρ st) fun x => IsV x.1 fun d => Wp (bindTg (.t is) d ρ) fun ρ1 => Q (.nx, ρ1, x.2) := by
  rw [exS]
  cases evW T e ρ st with
  | none => simp [Wp]
  | some p =>
    obtain ⟨x, s⟩ := p
    rw [wp_some]
    cases x with
    | val d => dsimp only; rw [isV]; cases bindTg (.t is) d ρ <;> simp [Wp]
    | new ds => simp [Wp, IsV]
theorem wp_asgP {is : List Nat} : Wp (exS T (.asgP is as) ρ st) Q ↔ Wp (evA T as ρ st) fun x => x.1.length = is.length ∧ Q (.nx, (is.zip x.1).foldl (fun r p => r.set p.1 (some p.2)) ρ, x.2) := by
  rw [exS]
  cases evA T as ρ st with
  | none => simp [Wp]
  | some p => obtain ⟨x, s⟩ := p; dsimp only; rw [wp_some]; split <;> rename_i h <;> simp [Wp, h]
theorem wp_ex : Wp (exS T (.ex e) ρ st) Q ↔ Wp (evW T e ρ st) fun x => Q (.nx, ρ, x.2) := by
  rw [exS]
  cases evW T e ρ st <;> simp [Wp]
theorem wp_ret : Wp (exS T (.ret e) ρ st) Q ↔ Wp (evW T e ρ st) fun x => Q (.rt (settle x.1 x.2).1, ρ, (settle x.1 x.2).2) := by
  rw [exS]
  cases evW T e ρ st <;> simp [Wp]
theorem wp_if : Wp (exS T (.ite c x y) ρ st) Q ↔ Wp (evW T c ρ st) fun w => Br (truth w.2 w.1) (Wp (exB T x ρ w.2) Q) (Wp (exB T y ρ w.2) Q) := by
  rw [exS]
  cases evW T c ρ st with
  | none => simp [Wp]
  | some p =>
    obtain ⟨w, s⟩ := p
    dsimp only
    rw [wp_some]
    cases truth s w with
    | none => simp [Wp, Br]
    | some t => cases t <;> simp [Wp, Br]
theorem wp_for {kind : Nat} {tg : Tg} : Wp (exS T (.for_ kind as tg x) ρ st) Q ↔ Wp (iW T kind as ρ st) fun p => Wp (forLoop (fun d r s => match bindTg tg d r with
        | some r1 => exB T x r1 s
        | none => none) (guardB p.1.2) p.1.1 ρ p.2) Q := by
  rw [for_eq]
  cases iW T kind as ρ st with
  | none => simp [Wp]
  | some p => rw [wp_some]; all_goals exact Iff.rfl
theorem wp_fn {tab : Nat → Option Fn} {k f : Nat} {ds : List D} {fn : Fn} {Q : D × Sto → Prop} (h : tab f = some fn) (hl : ds.length = fn.np) :
    Wp (evF tab (k + 1) f ds st) Q ↔ Wp (exB (evF tab k) fn.body (ds.map some ++ List.replicate (fn.ns - fn.np) none) st) fun r => RetQ r Q := by
  rw [run_fn h hl]
  cases exB (evF tab k) fn.body (ds.map some ++ List.replicate (fn.ns - fn.np) none) st with
  | none => simp [Wp, retOf]
  | some p =>
    obtain ⟨fl, ρ1, s1⟩ := p
    rw [wp_some]
    cases fl <;> simp [retOf, RetQ, Wp]
end
theorem nxt : (∀ ρ s A Q, Nxt (.nx, ρ, s) A Q ↔ A ρ s) ∧ (∀ d ρ s A Q, Nxt (.rt d, ρ, s) A Q ↔ Q (.rt d, ρ, s)) ∧ (∀ ρ s A Q, Nxt (.bk, ρ, s) A Q ↔ Q (.bk, ρ, s)) ∧ (∀ ρ s A Q, Nxt (.ct, ρ, s) A Q ↔ Q (.ct, ρ, s)) ∧
    (∀ d ρ s Q, RetQ (.rt d, ρ, s) Q ↔ Q (d, s)) ∧ (∀ ρ s Q, RetQ (.nx, ρ, s) Q ↔ Q (.non, s)) :=
  ⟨fun _ _ _ _ => Iff.rfl, fun _ _ _ _ _ => Iff.rfl, fun _ _ _ _ => Iff.rfl, fun _ _ _ _ => Iff.rfl, fun _ _ _ _ => Iff.rfl, fun _ _ _ => Iff.rfl⟩
/-- a walk: I holds of what is left -/
theorem wp_forLoop {f : D → Rho → Sto → V2} {g : Sto → Bool} {Q : Fl × Rho × Sto → Prop} (I : List D → Rho → Sto → Prop) (hg : ∀ r ρ s, I r ρ s → g s = true)
    (step : ∀ d r ρ s, I (d :: r) ρ s → Wp (f d ρ s) fun x => match x with
      | (.nx, ρ1, s1) => I r ρ1 s1
      | (.ct, ρ1, s1) => I r ρ1 s1
      | (.bk, ρ1, s1) => Q (.nx, ρ1, s1)
      | (.rt d, ρ1, s1) => Q (.rt d, ρ1, s1)) (fin : ∀ ρ s, I [] ρ s → Q (.nx, ρ, s)) :
    ∀ (items : List D) (ρ : Rho) (st : Sto), I items ρ st → Wp (forLoop f g items ρ st) Q
  | [], ρ, st, h => by
    rw [forLoop, if_pos (hg _ _ _ h)]
    exact wp_some.mpr (fin _ _ h)
  | d :: r, ρ, st, h => by
    obtain ⟨⟨fl, ρ1, s1⟩, e, q⟩ := step d r ρ st h
    rw [forLoop, if_pos (hg _ _ _ h), e]
    cases fl with
    | nx => exact wp_forLoop I hg step fin r ρ1 s1 q
    | ct => exact wp_forLoop I hg step fin r ρ1 s1 q
    | bk => exact wp_some.mpr q
    | rt d => exact wp_some.mpr q
/-- a comprehension without a condition: P holds of each made thing, J of each store -/
theorem wp_compAll {F : D → Sto → Option (Option D × Sto)} {g : Sto → Bool} {P : D → Prop} {J : Sto → Prop} (hg : ∀ s, J s → g s = true)
    : ∀ (items : List D) (st : Sto), (∀ d ∈ items, ∀ s, J s → Wp (F d s) fun y => ∃ e, y.1 = some e ∧ P e ∧ J y.2) → items.length ≤ sizeLine → J st →
      Wp (compLoop F g items st) fun y => y.1.length = items.length ∧ (∀ e ∈ y.1, P e) ∧ J y.2
  | [], st, _, _, h => by
    rw [compLoop, if_pos (hg _ h)]
    exact wp_some.mpr ⟨rfl, (fun _ h => nomatch h), h⟩
  | d :: r, st, step, hl, h => by
    obtain ⟨⟨o, s1⟩, e, x, hx, px, j1⟩ := step d (by simp) st h
    simp only at hx
    subst hx
    obtain ⟨⟨es, s2⟩, e2, l2, p2, j2⟩ := wp_compAll hg r s1 (fun d hd => step d (by simp [hd])) (by simp at hl; omega) j1
    have hl2 : es.length < sizeLine := by simp only at l2; simp at hl; omega
    rw [compLoop, if_pos (hg _ h), e]
    simp only
    rw [e2]
    simp only [hl2, if_true]
    exact wp_some.mpr ⟨by simp only at l2 ⊢; simp [l2], fun e he => by
      rcases List.mem_cons.mp he with q | q
      · rw [q]; exact px
      · exact p2 e q, j2⟩
/-- one turn: the made thing -/
theorem wp_turn {T : Calls} {ce : C} {ρ : Rho} {d : D} {s : Sto} {i : Nat} {Q : Option D × Sto → Prop} : Wp (turnF T (.n i) (.k (.bl true)) ce ρ d s) Q ↔ Wp (evW T ce (ρ.set i (some d)) s) fun x => Q (some (settle x.1 x.2).1, (settle x.1 x.2).2) := by
  simp only [turnF, bindTg, tsW, evW, vD, truth]
  cases evW T ce (ρ.set i (some d)) s <;> simp [Wp]
theorem settle_r : (∀ d st, settle (.val d) st = (d, st)) ∧ (∀ ds st, settle (.new ds) st = (.ref st.length, st ++ [.lst ds])) := ⟨fun _ _ => rfl, fun _ _ => rfl⟩
/-- a while: R says how often it still goes round at most -/
theorem wp_wh {T : Calls} {c : C} {b : List Nx.S} {Q : Fl × Rho × Sto → Prop} (I : Nat → Rho → Sto → Prop)
    (step : ∀ n ρ s, I n ρ s → Wp (evW T c ρ s) fun w => Br (truth w.2 w.1) (∃ m, n = m + 1 ∧ Wp (exB T b ρ w.2) fun x => match x with
      | (.nx, ρ1, s1) => I m ρ1 s1
      | (.ct, ρ1, s1) => I m ρ1 s1
      | (.bk, ρ1, s1) => Q (.nx, ρ1, s1)
      | (.rt d, ρ1, s1) => Q (.rt d, ρ1, s1)) (Q (.nx, ρ, w.2))) {n : Nat} {ρ : Rho} {st : Sto} (hn : n < rounds) (h : I n ρ st) : Wp (exS T (.wh c b) ρ st) Q := by
  rw [wh_eq]
  have go : ∀ (n m : Nat) (ρ : Rho) (st : Sto), n < m → I n ρ st → Wp (whLoop (tsW T c) (fun r s => exB T b r s) m ρ st) Q := by
    intro n m
    induction m generalizing n with
    | zero => intro ρ st h; omega
    | succ m ih =>
      intro ρ st hm h
      obtain ⟨⟨w, s1⟩, e, q⟩ := step n ρ st h
      simp only at q
      rw [whLoop]
      have et : tsW T c ρ st = match truth s1 w with | some b => some (b, s1) | none => none := by
        simp only [tsW, e]
        all_goals (cases truth s1 w <;> rfl)
      rw [et]
      cases ht : truth s1 w with
      | none => rw [ht] at q; exact False.elim q
      | some t =>
        rw [ht] at q
        cases t with
        | false => exact wp_some.mpr q
        | true =>
          obtain ⟨n', hn', ⟨fl, ρ1, s2⟩, e2, q2⟩ := q
          simp only
          rw [e2]
          cases fl with
          | nx => exact ih n' ρ1 s2 (by omega) q2
          | ct => exact ih n' ρ1 s2 (by omega) q2
          | bk => exact wp_some.mpr q2
          | rt d => exact wp_some.mpr q2
  exact go n rounds ρ st hn h
theorem wps : (∀ T ρ st Q d, Wp (evW T (.k d) ρ st) Q ↔ Q (.val d, st)) ∧ (∀ T ρ st Q i, Wp (evW T (.v i) ρ st) Q ↔ Wp (ρ[i]?) fun o => Wp o fun d => Q (.val d, st)) ∧
    (∀ T ρ st Q o a, Wp (evW T (.p1 o a) ρ st) Q ↔ Wp (evW T a ρ st) fun x => Wp (op1 o x.1 x.2) Q) ∧
    (∀ T ρ st Q o a b, Wp (evW T (.p2 o a b) ρ st) Q ↔ Wp (evW T a ρ st) fun x => Wp (evW T b ρ x.2) fun y => Wp (op2 o x.1 y.1 y.2) Q) ∧
    (∀ T ρ st Q o a b c, Wp (evW T (.p3 o a b c) ρ st) Q ↔ Wp (evW T a ρ st) fun x => Wp (evW T b ρ x.2) fun y => Wp (evW T c ρ y.2) fun z => Wp (op3 o x.1 y.1 z.1 z.2) Q) ∧
    (∀ T ρ st Q r o a b, Wp (evW T (.m1 r o a b) ρ st) Q ↔ Wp (evW T a ρ st) fun x => rcOk r x.1 x.2 = true ∧ Wp (evW T b ρ x.2) fun y => Wp (op2 o x.1 y.1 y.2) Q) ∧
    (∀ T ρ st Q a b, Wp (evW T (.and a b) ρ st) Q ↔ Wp (evW T a ρ st) fun x => Br (truth x.2 x.1) (Wp (evW T b ρ x.2) Q) (Q x)) ∧
    (∀ T ρ st Q a b, Wp (evW T (.or a b) ρ st) Q ↔ Wp (evW T a ρ st) fun x => Br (truth x.2 x.1) (Q x) (Wp (evW T b ρ x.2) Q)) ∧
    (∀ T ρ st Q c a b, Wp (evW T (.ite c a b) ρ st) Q ↔ Wp (evW T c ρ st) fun x => Br (truth x.2 x.1) (Wp (evW T a ρ x.2) Q) (Wp (evW T b ρ x.2) Q)) ∧
    (∀ T ρ st Q as, Wp (evW T (.tup as) ρ st) Q ↔ Wp (evA T as ρ st) fun x => x.1.length ≤ sizeLine ∧ Q (.val (.tup x.1), x.2)) ∧
    (∀ T ρ st Q as, Wp (evW T (.lst as) ρ st) Q ↔ Wp (evA T as ρ st) fun x => x.1.length ≤ sizeLine ∧ Q (.new x.1, x.2)) ∧
    (∀ T ρ st Q f as perm, Wp (evW T (.call f as perm) ρ st) Q ↔ Wp (evA T as ρ st) fun x => Wp (permute perm x.1) fun es => Wp (T f es x.2) fun y => Q (.val y.1, y.2)) ∧
    (∀ T ρ st Q, Wp (evA T [] ρ st) Q ↔ Q ([], st)) ∧
    (∀ T ρ st Q a as, Wp (evA T (a :: as) ρ st) Q ↔ Wp (evW T a ρ st) fun x => Wp (evA T as ρ (settle x.1 x.2).2) fun y => Q ((settle x.1 x.2).1 :: y.1, y.2)) ∧
    (∀ T ρ st Q, Wp (evI T [] ρ st) Q ↔ Q ([], st)) ∧
    (∀ T ρ st Q a as, Wp (evI T (a :: as) ρ st) Q ↔ Wp (evW T a ρ st) fun x => Wp (evI T as ρ x.2) fun y => Q (x.1 :: y.1, y.2)) ∧
    (∀ T ρ st Q kind as, Wp (iW T kind as ρ st) Q ↔ Wp (evI T as ρ st) fun x => Wp (walkOf kind x.1 x.2) fun w => Q (w, x.2)) :=
  ⟨fun _ _ _ _ _ => wp_k, fun _ _ _ _ _ => wp_v, fun _ _ _ _ _ _ => wp_p1, fun _ _ _ _ _ _ _ => wp_p2, fun _ _ _ _ _ _ _ _ => wp_p3, fun _ _ _ _ _ _ _ _ => wp_m1, fun _ _ _ _ _ _ => wp_and, fun _ _ _ _ _ _ => wp_or, fun _ _ _ _ _ _ _ => wp_ite,
    fun _ _ _ _ _ => wp_tup, fun _ _ _ _ _ => wp_lst, fun _ _ _ _ _ _ _ => wp_call, fun _ _ _ _ => wp_a0, fun _ _ _ _ _ _ => wp_a1, fun _ _ _ _ => wp_i0, fun _ _ _ _ _ _ => wp_i1, fun _ _ _ _ _ _ => wp_iW⟩
theorem wpS : (∀ T ρ st Q, Wp (exB T [] ρ st) Q ↔ Q (.nx, ρ, st)) ∧ (∀ T ρ st Q s x, Wp (exB T (s :: x) ρ st) Q ↔ Wp (exS T s ρ st) fun r => Nxt r (fun ρ1 s1 => Wp (exB T x ρ1 s1) Q) Q) ∧
    (∀ T ρ st Q j e, Wp (exS T (.asg j e) ρ st) Q ↔ Wp (evW T e ρ st) fun x => Q (.nx, ρ.set j (some (settle x.1 x.2).1), (settle x.1 x.2).2)) ∧
    (∀ T ρ st Q is e, Wp (exS T (.asgT is e) ρ st) Q ↔ Wp (evW T e ρ st) fun x => IsV x.1 fun d => Wp (bindTg (.t is) d ρ) fun ρ1 => Q (.nx, ρ1, x.2)) ∧
    (∀ T ρ st Q is as, Wp (exS T (.asgP is as) ρ st) Q ↔ Wp (evA T as ρ st) fun x => x.1.length = is.length ∧ Q (.nx, (is.zip x.1).foldl (fun r p => r.set p.1 (some p.2)) ρ, x.2)) ∧
    (∀ T ρ st Q e, Wp (exS T (.ex e) ρ st) Q ↔ Wp (evW T e ρ st) fun x => Q (.nx, ρ, x.2)) ∧
    (∀ T ρ st Q e, Wp (exS T (.ret e) ρ st) Q ↔ Wp (evW T e ρ st) fun x => Q (.rt (settle x.1 x.2).1, ρ, (settle x.1 x.2).2)) ∧
    (∀ T ρ st Q c x y, Wp (exS T (.ite c x y) ρ st) Q ↔ Wp (evW T c ρ st) fun w => Br (truth w.2 w.1) (Wp (exB T x ρ w.2) Q) (Wp (exB T y ρ w.2) Q)) :=
  ⟨fun _ _ _ _ => wp_b0, fun _ _ _ _ _ _ => wp_b1, fun _ _ _ _ _ _ => wp_asg, fun _ _ _ _ _ _ => wp_asgT, fun _ _ _ _ _ _ => wp_asgP, fun _ _ _ _ _ => wp_ex, fun _ _ _ _ _ => wp_ret, fun _ _ _ _ _ _ _ => wp_if⟩
theorem trB (st : Sto) (b : Bool) : truth st (.val (.bl b)) = some b := rfl
mutual
theorem eqDs_refl : ∀ d : D, eqDs d d = true
  | .non => rfl
  | .bl b => by simp [eqDs]
  | .int i => by simp [eqDs]
  | .str s => by simp [eqDs]
  | .tup ds => by rw [eqDs]; exact eqDl_refl ds
  | .ref l => by simp [eqDs]
  | .lis ds => by rw [eqDs]; exact eqDl_refl ds
theorem eqDl_refl : ∀ ds : List D, eqDl ds ds = true
  | [] => rfl
  | d :: r => by rw [eqDl, eqDs_refl d, eqDl_refl r]; rfl
end
theorem guard1 {l : Nat} {ds : List D} {st : Sto} (h : st[l]? = some (.lst ds)) : guardB [(l, ds)] st = true := by
  simp [guardB, listOf, h, eqDl_refl]
end Px

end

section
set_option maxHeartbeats 2000000
/-! Px25: a drawn timeline. -/
namespace Px
open Nx
open PySem (sizeLine)
def partsOf : TL → List TL
  | .row l => l
  | .lt c => [.lt c]
  | .mix l => [.mix l]
  | .on t => [.on t]
  | .fr t => [.fr t]
def flatTL (ts : List TL) : List TL := ts.flatMap partsOf
theorem sizeL_app : ∀ (a b : List TL), sizeL (a ++ b) = sizeL a + sizeL b
  | [], b => by simp [sizeL]
  | x :: r, b => by simp only [List.cons_append, sizeL, sizeL_app r b]; omega
theorem size_parts (t : TL) : sizeL (partsOf t) = size t := by cases t <;> simp [partsOf, size, sizeL]
theorem size_flat : ∀ (ts : List TL), sizeL (flatTL ts) = sizeL ts
  | [] => rfl
  | t :: r => by
    have := size_flat r
    simp only [flatTL, List.flatMap_cons, sizeL_app, size_parts, sizeL] at this ⊢
    omega
theorem len_size {cs : List Nat} : ∀ (ts : List TL), (∀ t ∈ ts, Wf cs t) → ts.length ≤ sizeL ts
  | [], _ => Nat.zero_le _
  | t :: r, h => by
    have a := size_pos t (h t (by simp))
    have b := len_size r fun u hu => h u (by simp [hu])
    simp only [List.length_cons, sizeL]
    omega
theorem wfL_of {cs : List Nat} : ∀ {l : List TL}, (∀ t ∈ l, Wf cs t) → WfL cs l
  | [], _ => trivial
  | t :: r, h => ⟨h t (by simp), wfL_of fun u hu => h u (by simp [hu])⟩
theorem parts_wf {cs : List Nat} {t : TL} (h : Wf cs t) : 1 ≤ (partsOf t).length ∧ ∀ u ∈ partsOf t, Wf cs u ∧ isRow u = false ∧ dep u ≤ dep t := by
  cases t with
  | row l =>
    refine ⟨by have := h.1; simp only [partsOf]; omega, fun u hu => ⟨wfL_mem h.2.2.2 u hu, h.2.2.1 u hu, ?_⟩⟩
    have hu : u ∈ l := hu
    obtain ⟨i, hi⟩ := List.getElem?_of_mem hu
    have := depL_get hi
    simp only [dep]
    omega
  | _ =>
    refine ⟨by simp [partsOf], fun u hu => ?_⟩
    simp only [partsOf, List.mem_singleton] at hu
    subst hu
    exact ⟨h, rfl, Nat.le_refl _⟩
theorem flat_len {cs : List Nat} : ∀ (ts : List TL), (∀ t ∈ ts, Wf cs t) → ts.length ≤ (flatTL ts).length
  | [], _ => Nat.zero_le _
  | t :: r, h => by
    have a := (parts_wf (h t (by simp))).1
    have b := flat_len r fun u hu => h u (by simp [hu])
    simp only [flatTL, List.flatMap_cons, List.length_append, List.length_cons] at b ⊢
    omega
theorem flat_mem {cs : List Nat} {ts : List TL} (h : ∀ t ∈ ts, Wf cs t) {n : Nat} (hn : ∀ t ∈ ts, dep t ≤ n) : ∀ u ∈ flatTL ts, Wf cs u ∧ isRow u = false ∧ dep u ≤ n := fun u hu => by
  obtain ⟨t, ht, hu⟩ := List.mem_flatMap.mp hu
  obtain ⟨a, b, c⟩ := (parts_wf (h t ht)).2 u hu
  exact ⟨a, b, Nat.le_trans c (hn t ht)⟩
theorem depL_le {n : Nat} : ∀ {l : List TL}, (∀ t ∈ l, dep t ≤ n) → depL l ≤ n
  | [], _ => Nat.zero_le _
  | t :: r, h => by
    have a := h t (by simp)
    have b := depL_le fun u hu => h u (List.mem_cons_of_mem t hu)
    simp only [depL]
    omega
theorem sizeL_le {n : Nat} : ∀ {l : List TL}, (∀ t ∈ l, size t ≤ n) → sizeL l ≤ l.length * n
  | [], _ => Nat.zero_le _
  | t :: r, h => by
    have a := h t (by simp)
    have b := sizeL_le fun u hu => h u (List.mem_cons_of_mem t hu)
    simp only [sizeL, List.length_cons, Nat.add_mul]
    omega
theorem isT_enc {st : Sto} (t : TL) : op1 (.isT "str") (.val (enc t)) st = some (.val (.bl (isLt t)), st) := by
  rw [op_str (tyOk_enc t)]
  cases t <;> rfl
theorem rc_l {st : Sto} {l : Nat} {ds : List D} (h : st[l]? = some (.lst ds)) : rcOk .l (.val (.ref l)) st = true := by simp [rcOk, h]
theorem ext_at {st : Sto} {ds es : List D} (h : ds.length + es.length ≤ sizeLine) : op2 .extend (.val (.ref st.length)) (.new es) (st ++ [.lst ds]) = some (.val .non, st ++ [.lst (ds ++ es)]) := by
  simp [op2, lstOf, h, sameRef]
theorem line100 : (100 : Nat) ≤ sizeLine := by decide
section
variable {tab : Nat → Option Fn} {k : Nat} {st : Sto} {cs : List Nat}
theorem x_flat {f l : Nat} {ts : List TL} (h : tab f = some ⟨1, 3, B_law_flat⟩) (hl : st[l]? = some (.lst (ts.map enc))) (hw : ∀ t ∈ ts, Wf cs t) (h2 : 2 ≤ ts.length) (hz : sizeL ts ≤ 100) :
    Wp (evF tab (k + 1) f [.ref l] st) fun x => x.1 = enc (.row (flatTL ts)) ∧ Ex st x.2 := by
  have hfl : (flatTL ts).length ≤ 100 := by
    have := len_size (flatTL ts) fun u hu => (flat_mem (n := depL ts) hw (fun t ht => (List.getElem?_of_mem ht).elim fun i hi => depL_get hi) u hu).1
    rw [size_flat] at this
    omega
  have l100 := line100
  have hll : l < st.length := (List.getElem?_eq_some_iff.mp hl).1
  have hl' : ∀ o, (st ++ [o])[l]? = some (.lst (ts.map enc)) := fun o => by rw [List.getElem?_append_left hll]; exact hl
  rw [wp_fn h rfl]
  simp only [B_law_flat, wpS, wps, wp_for, wp_some, settle_r, nxt, List.map_cons, List.map_nil, List.cons_append, List.nil_append, List.replicate, Nat.sub_self, List.getElem?_cons_zero, List.getElem?_cons_succ, List.set_cons_zero, List.set_cons_succ, List.length_nil, Nat.zero_le, true_and, walkOf, hl']
  refine wp_forLoop (fun r ρ s => ∃ a b : List TL, ∃ o2, a ++ b = ts ∧ r = b.map enc ∧ ρ = [some (.ref l), some (.ref st.length), o2] ∧ s = st ++ [.lst ((flatTL a).map enc)]) ?_ ?_ ?_ _ _ _ ⟨[], ts, none, rfl, rfl, rfl, rfl⟩
  · rintro r ρ s ⟨a, b, o2, h1, h2, h3, rfl⟩
    exact guard1 (hl' _)
  · rintro d r ρ s ⟨a, b, o2, h1, h2, rfl, rfl⟩
    cases b with
    | nil => simp at h2
    | cons t b =>
      simp only [List.map_cons, List.cons.injEq] at h2
      obtain ⟨rfl, rfl⟩ := h2
      have e1 : flatTL (a ++ [t]) = flatTL a ++ partsOf t := by simp [flatTL]
      have hlen : ((flatTL a).map enc).length + ((partsOf t).map enc).length ≤ sizeLine := by
        have e : flatTL ts = flatTL a ++ (partsOf t ++ flatTL b) := by rw [← h1]; simp [flatTL]
        have e := congrArg List.length e
        simp only [List.length_append] at e
        simp only [List.length_map]
        omega
      have key : Wp (evW (evF tab k) (.ite (.and (.p1 .not (.p1 (.isT "str") (.v 2))) (.p2 .eq (.p2 .idx (.v 2) (.k (.int 0))) (.k (.str "row")))) (.p1 .list (.p2 .idx (.v 2) (.k (.int 1)))) (.lst [(.v 2)])) [some (.ref l), some (.ref st.length), some (enc t)] (st ++ [.lst ((flatTL a).map enc)]))
          fun x => x = (.new ((partsOf t).map enc), st ++ [.lst ((flatTL a).map enc)]) := by
        cases t with
        | lt c => simp [wps, wp_some, isT_enc, isLt, opsI, trB, br_t, br_f, settle_r, partsOf]; decide
        | row l => simp [wps, wp_some, isT_enc, isLt, opsI, trB, br_t, br_f, settle_r, partsOf]; simp [enc, opsX, wp_some, o_eqS, trB, br_t, opsI, encL_map]
        | mix l => simp [wps, wp_some, isT_enc, isLt, opsI, trB, br_t, br_f, settle_r, partsOf]; simp [enc, opsX, wp_some, o_eqS, trB, br_t, br_f, opsI, encL_map, p10']; decide
        | on l => simp [wps, wp_some, isT_enc, isLt, opsI, trB, br_t, br_f, settle_r, partsOf]; simp [enc, opsX, wp_some, o_eqS, trB, br_t, br_f, opsI, encL_map, p4']; decide
        | fr l => simp [wps, wp_some, isT_enc, isLt, opsI, trB, br_t, br_f, settle_r, partsOf]; simp [enc, opsX, wp_some, o_eqS, trB, br_t, br_f, opsI, encL_map, p7']; decide
      simp only [bindTg, wpS, wp_m1, wp_v, List.set_cons_zero, List.set_cons_succ, List.getElem?_cons_zero, List.getElem?_cons_succ, wp_some, rc_l (at_snoc _ _), true_and]
      refine key.mono ?_
      rintro x rfl
      simp only [ext_at hlen, wp_some, nxt]
      exact ⟨a ++ [t], b, _, by simp [← h1], rfl, rfl, by rw [e1, List.map_append]⟩
  · rintro ρ s ⟨a, b, o2, h1, hb, rfl, rfl⟩
    have hb : b = [] := by
      cases b with
      | nil => rfl
      | cons _ _ => simp at hb
    subst hb
    rw [List.append_nil] at h1
    subst h1
    have fl := flat_len a hw
    have len : op1 .len (.val (.ref st.length)) (st ++ [.lst ((flatTL a).map enc)]) = some (.val (.int (flatTL a).length), st ++ [.lst ((flatTL a).map enc)]) := by simp [op1, vI, vD]
    have tup : op1 .tuple (.val (.ref st.length)) (st ++ [.lst ((flatTL a).map enc)]) = some (.val (.tup ((flatTL a).map enc)), st ++ [.lst ((flatTL a).map enc)]) := by simp [op1, seqOf, listOf, vI, vD]
    have gt : decide ((1 : Int) < ((flatTL a).length : Int)) = true := decide_eq_true (by omega)
    simp only [wpS, wps, wp_some, settle_r, nxt, List.getElem?_cons_zero, List.getElem?_cons_succ, len, opsI, trB, gt, br_t, tup, List.length_cons, List.length_nil]
    refine ⟨by decide, ?_, Ex.snoc st _⟩
    simp [enc, encL_map]
end
end Px

end

section
set_option maxHeartbeats 2000000
/-! Px26: draws and picks as rules; a timeline by draws. -/
namespace Px
open Nx
open PySem (sizeLine)
/-- a law's draw and pick -/
structure PickAt (tab : Nat → Option Fn) (id ip : Nat) : Prop where
  draw : ∃ c1 n1 m1 m2 q, tab id = some ⟨2, 3, B_law_draw c1 n1 m1 m2 q⟩ ∧ Nums c1 n1 m1 m2 q
  pick : tab ip = some ⟨2, 2, B_law_pick id⟩
section
variable {tab : Nat → Option Fn} {k : Nat} {st : Sto} {lp id ip : Nat}
theorem w_draw (A : PickAt tab id ip) (P : Pot lp st) {many : Int} (h0 : 0 < many) (h1 : many < 1073741824) :
    Wp (evF tab (k + 1) id [.ref lp, .int many] st) fun x => (∃ d : Nat, x.1 = .int (d : Nat) ∧ (d : Int) < many) ∧ Gw lp st x.2 ∧ Pot lp x.2 := by
  obtain ⟨c1, n1, m1, m2, q, h, N⟩ := A.draw
  obtain ⟨d, st', e, d0, d1, g, P'⟩ := x_draw (k := k) h N P h0 h1
  exact .of e ⟨⟨d.toNat, by simp only; rw [Int.toNat_of_nonneg d0], by rw [Int.toNat_of_nonneg d0]; exact d1⟩, g, P'⟩
theorem w_pick (A : PickAt tab id ip) (P : Pot lp st) {l : Nat} {xs : List D} (hl : st[l]? = some (.lst xs)) (ne : l ≠ lp) (h0 : xs ≠ []) (h1 : xs.length < 1073741824) :
    Wp (evF tab (k + 2) ip [.ref lp, .ref l] st) fun x => x.1 ∈ xs ∧ Gw lp st x.2 ∧ Pot lp x.2 := by
  obtain ⟨c1, n1, m1, m2, q, h, N⟩ := A.draw
  obtain ⟨d, st', e, m, g, P'⟩ := x_pick (k := k) A.pick h N P hl ne h0 h1
  exact .of e ⟨m, g, P'⟩
theorem w_pickS (A : PickAt tab id ip) (P : Pot lp st) {s : PySem.Str} (h0 : 0 < s.length) (h1 : s.length < 1073741824) :
    Wp (evF tab (k + 2) ip [.ref lp, .str s] st) fun x => (∃ c ∈ s.cps.toList, x.1 = .str ⟨#[c]⟩) ∧ Gw lp st x.2 ∧ Pot lp x.2 := by
  rw [wp_fn A.pick rfl]
  simp only [B_law_pick, wpS, wps, wp_some, List.map_cons, List.map_nil, List.cons_append, List.nil_append, List.replicate, Nat.sub_self, List.getElem?_cons_zero, List.getElem?_cons_succ, opsI, settle_r]
  simp only [permute, List.mapM_cons, List.mapM_nil, List.getElem?_cons_zero, List.getElem?_cons_succ, Option.pure_def, Option.bind_eq_bind, Option.bind_some, wp_some]
  refine (w_draw (k := k) A P (many := s.length) (by omega) (by omega)).mono ?_
  rintro ⟨x, s1⟩ ⟨⟨d, rfl, hd⟩, g, P'⟩
  have hd : d < s.cps.toList.length := by
    have : s.length = s.cps.toList.length := by simp [PySem.Str.length]
    omega
  have ix : op2 .idx (.val (.str s)) (.val (.int (d : Nat))) s1 = some (.val (.str ⟨#[s.cps.toList[d]]⟩), s1) := by
    have : L2.atI s.cps.toList (d : Int) = some s.cps.toList[d] := at_nat (by simp [hd])
    simp only [op2, this, vD]
  simp only [ix, wp_some, settle_r, nxt]
  exact ⟨⟨_, List.getElem_mem _, rfl⟩, g, P'⟩
end
def SZ : Nat → Nat
  | 0 => 1 | 1 => 1 | 2 => 4 | 3 => 13 | 4 => 39 | _ => 79
/-- a timeline drawn so deep -/
structure Tm (cs : List Nat) (n : Nat) (t : TL) : Prop where
  wf : Wf cs t
  dp : dep t ≤ n
  sz : size t ≤ SZ n
def wordsD : List D := [.str "on", .str "from", .str "mix", .str "on", .str "from"]
/-- the law's timelines -/
structure TimeAt (tab : Nat → Option Fn) (id ip it ifl : Nat) : Prop where
  P : PickAt tab id ip
  time : tab it = some ⟨4, 8, B_law_time ip it id ifl⟩
  flat : tab ifl = some ⟨1, 3, B_law_flat⟩
theorem ex_list {P : TL → Prop} : ∀ {es : List D}, (∀ e ∈ es, ∃ t, e = enc t ∧ P t) → ∃ ts : List TL, es = ts.map enc ∧ ∀ t ∈ ts, P t
  | [], _ => ⟨[], rfl, fun _ h => nomatch h⟩
  | e :: r, h => by
    obtain ⟨t, rfl, pt⟩ := h e (by simp)
    obtain ⟨ts, rfl, pts⟩ := ex_list fun e he => h e (List.mem_cons_of_mem _ he)
    exact ⟨t :: ts, rfl, fun u hu => (List.mem_cons.mp hu).elim (fun q => q ▸ pt) (pts u)⟩
theorem sz_mix {n m s : Nat} (hn : 1 ≤ n) (h5 : n < 5) (hm : m ≤ if n + 1 < 4 then 3 else 2) (hs : s ≤ m * SZ n) : s + 1 ≤ SZ (n + 1) := by
  have hq : m * SZ n ≤ (if n + 1 < 4 then 3 else 2) * SZ n := Nat.mul_le_mul_right _ hm
  have : n = 1 ∨ n = 2 ∨ n = 3 ∨ n = 4 := by omega
  rcases this with rfl | rfl | rfl | rfl <;> simp [SZ] at hq hs ⊢ <;> omega
theorem sz_row {n m s : Nat} (hn : 1 ≤ n) (h5 : n < 5) (hm : m ≤ if n + 1 < 5 then 3 else 2) (hs : s ≤ m * SZ n) : s ≤ SZ (n + 1) := by
  have hq : m * SZ n ≤ (if n + 1 < 5 then 3 else 2) * SZ n := Nat.mul_le_mul_right _ hm
  have : n = 1 ∨ n = 2 ∨ n = 3 ∨ n = 4 := by omega
  rcases this with rfl | rfl | rfl | rfl <;> simp [SZ] at hq hs ⊢ <;> omega
theorem sz_one {n : Nat} (hn : 1 ≤ n) (h5 : n < 5) : SZ n + 1 ≤ SZ (n + 1) := by
  have : n = 1 ∨ n = 2 ∨ n = 3 ∨ n = 4 := by omega
  rcases this with rfl | rfl | rfl | rfl <;> simp [SZ]
theorem sz_100 (n : Nat) : SZ n ≤ 79 := by
  unfold SZ
  split <;> omega
end Px

end

section
set_option maxHeartbeats 2000000
/-! Px27: a timeline by draws. -/
namespace Px
open Nx
open PySem (sizeLine)
section
variable {T : Calls} {ρ : Rho} {st st1 : Sto} {Q : Fl × Rho × Sto → Prop} {c : C} {a x : List Nx.S}
theorem wp_skip (h : evW T c ρ st = some (.val (.bl false), st1)) (g : Wp (exB T x ρ st1) Q) : Wp (exB T (.ite c a [] :: x) ρ st) Q := by
  rw [b_nx (s_iteF h)]
  exact g
theorem wp_step {s : Nx.S} {P : Fl × Rho × Sto → Prop} (h : Wp (exS T s ρ st) P) (g : ∀ r, P r → Nxt r (fun ρ1 s1 => Wp (exB T x ρ1 s1) Q) Q) : Wp (exB T (s :: x) ρ st) Q := by
  rw [wp_b1]
  exact h.mono g
theorem wp_in {b : List Nx.S} {P : Fl × Rho × Sto → Prop} (h : evW T c ρ st = some (.val (.bl true), st1)) (h2 : Wp (exB T a ρ st1) P) (g : ∀ r, P r → Nxt r (fun ρ1 s1 => Wp (exB T x ρ1 s1) Q) Q) : Wp (exB T (.ite c a b :: x) ρ st) Q := by
  rw [wp_b1, s_iteT h]
  exact h2.mono g
end
theorem nl1 : decide (("row" : PySem.Str) = "letter") = false := by decide
theorem nl2 : decide (("on" : PySem.Str) = "letter") = false := by decide
theorem nl3 : decide (("from" : PySem.Str) = "letter") = false := by decide
theorem nl4 : decide (("mix" : PySem.Str) = "letter") = false := by decide
theorem nr1 : decide (("mix" : PySem.Str) = "row") = false := by decide
theorem nr2 : decide (("row" : PySem.Str) = "row") = true := by decide
theorem nr3 : decide (("letter" : PySem.Str) = "letter") = true := by decide
section
variable {tab : Nat → Option Fn} {k : Nat} {lp lw id ip it ifl : Nat} {cs : List Nat} {s : PySem.Str}
/-- the word is drawn -/
theorem time_word (A : TimeAt tab id ip it ifl) {n : Nat} {st : Sto} (h5 : n + 1 ≤ 5) (P : Pot lp st) (hw : st[lw]? = some (.lst wordsD)) (ne : lw ≠ lp) :
    Wp (exS (evF tab (k + n + 2)) (.asg 4 (.ite (.p2 .gt (.v 3) (.k (.int 1))) (.call ip [(.v 0), (.p2 .add (.lst [(.k (.str "letter")), (.k (.str "letter")), (.k (.str "row")), (.k (.str "row"))]) (.v 2))] [0, 1]) (.k (.str "letter"))))
      [some (.ref lp), some (.str s), some (.ref lw), some (.int ((n + 1 : Nat) : Int)), none, none, none, none] st)
      fun r => ∃ w s1, r = (.nx, [some (.ref lp), some (.str s), some (.ref lw), some (.int ((n + 1 : Nat) : Int)), some (.str w), none, none, none], s1) ∧ (w = "letter" ∨ (1 ≤ n ∧ (w = "row" ∨ w = "mix" ∨ w = "on" ∨ w = "from"))) ∧ Gw lp st s1 ∧ Pot lp s1 := by
  have hlp : lp < st.length := by obtain ⟨a, b, e, _⟩ := P; exact (List.getElem?_eq_some_iff.mp e).1
  by_cases hn : 1 ≤ n
  · have q : decide ((1 : Int) < ((n + 1 : Nat) : Int)) = true := decide_eq_true (by omega)
    have ad : op2 .add (.new [.str "letter", .str "letter", .str "row", .str "row"]) (.val (.ref lw)) st = some (.new [.str "letter", .str "letter", .str "row", .str "row", .str "on", .str "from", .str "mix", .str "on", .str "from"], st) := by
      simp [op2, lstOf, hw, wordsD, PySem.sizeLine_eq]
    simp only [wpS, wps, wp_some, settle_r, nxt, trB, br_t, br_f, isV, List.map_cons, List.map_nil, List.cons_append, List.nil_append, List.replicate, Nat.sub_self, Nat.reduceSub, List.getElem?_cons_zero, List.getElem?_cons_succ, List.set_cons_zero, List.set_cons_succ, permute, List.mapM_cons, List.mapM_nil, Option.pure_def, Option.bind_eq_bind, Option.bind_some, List.length_cons, List.length_nil, bindTg, List.zip_cons_cons, List.zip_nil_left, List.zip_nil_right, List.foldl_cons, List.foldl_nil, PySem.sizeLine_eq, Nat.reduceAdd, Nat.reduceLeDiff, Nat.zero_le, eq_self, true_and, opsI, o_eqS, if_true, q, ad]
    refine (w_pick (k := k + n) A.P (P.ex (Ex.snoc _ _)) (at_snoc _ _) (by omega) (by simp) (by simp)).mono ?_
    rintro ⟨d, s1⟩ ⟨m, g, P1⟩
    simp only [List.mem_cons, List.not_mem_nil, or_false] at m
    rcases m with rfl | rfl | rfl | rfl | rfl | rfl | rfl | rfl | rfl <;> exact ⟨_, s1, rfl, by simp [hn], (Ex.snoc _ _).gw.trans g, P1⟩
  · have q : decide ((1 : Int) < ((n + 1 : Nat) : Int)) = false := decide_eq_false (by omega)
    simp only [wpS, wps, wp_some, settle_r, nxt, trB, br_t, br_f, isV, List.map_cons, List.map_nil, List.cons_append, List.nil_append, List.replicate, Nat.sub_self, Nat.reduceSub, List.getElem?_cons_zero, List.getElem?_cons_succ, List.set_cons_zero, List.set_cons_succ, permute, List.mapM_cons, List.mapM_nil, Option.pure_def, Option.bind_eq_bind, Option.bind_some, List.length_cons, List.length_nil, bindTg, List.zip_cons_cons, List.zip_nil_left, List.zip_nil_right, List.foldl_cons, List.foldl_nil, PySem.sizeLine_eq, Nat.reduceAdd, Nat.reduceLeDiff, Nat.zero_le, eq_self, true_and, opsI, o_eqS, if_true, q]
    exact ⟨_, st, rfl, .inl rfl, Gw.refl _ _, P⟩
theorem row_tm {ts : List TL} {n : Nat} (hn : 1 ≤ n) (h5 : n < 5) (h2 : 2 ≤ ts.length) (hl : ts.length ≤ if n + 1 < 5 then 3 else 2) (h : ∀ t ∈ ts, Tm cs n t) : Tm cs (n + 1) (.row (flatTL ts)) := by
  have wf : ∀ t ∈ ts, Wf cs t := fun t ht => (h t ht).wf
  have fm := flat_mem (n := n) wf fun t ht => (h t ht).dp
  have sz : sizeL (flatTL ts) ≤ SZ (n + 1) := by
    rw [size_flat]
    exact sz_row hn h5 hl (sizeL_le fun t ht => (h t ht).sz)
  have l1 := flat_len ts wf
  have l2 := len_size (flatTL ts) fun u hu => (fm u hu).1
  have := sz_100 (n + 1)
  refine ⟨⟨by omega, by omega, fun u hu => (fm u hu).2.1, wfL_of fun u hu => (fm u hu).1⟩, ?_, sz⟩
  have := depL_le fun u hu => (fm u hu).2.2
  simp only [dep]
  omega
theorem mix_tm {ts : List TL} {n : Nat} (hn : 1 ≤ n) (h5 : n < 5) (h2 : 1 ≤ ts.length) (hl : ts.length ≤ if n + 1 < 4 then 3 else 2) (h : ∀ t ∈ ts, Tm cs n t) : Tm cs (n + 1) (.mix ts) := by
  have sz : sizeL ts + 1 ≤ SZ (n + 1) := sz_mix hn h5 hl (sizeL_le fun t ht => (h t ht).sz)
  refine ⟨⟨h2, ?_, wfL_of fun u hu => (h u hu).wf⟩, ?_, sz⟩
  · split at hl <;> omega
  · have := depL_le fun u hu => (h u hu).dp
    simp only [dep]
    omega
theorem rng_len (m : Nat) : (rangeD 0 (m : Nat)).length = m := by simp [rangeD]
theorem w_time (A : TimeAt tab id ip it ifl) (hs : 0 < s.length) (hs2 : s.length < 100) (hc : ∀ c ∈ s.cps.toList, c ∈ cs) (ne : lw ≠ lp) : ∀ (n : Nat) (st : Sto), 1 ≤ n → n ≤ 5 → Pot lp st → st[lw]? = some (.lst wordsD) →
    Wp (evF tab (k + n + 2) it [.ref lp, .str s, .ref lw, .int (n : Nat)] st) fun x => (∃ t, x.1 = enc t ∧ Tm cs n t) ∧ Gw lp st x.2 ∧ Pot lp x.2
  | 0, _, h, _, _, _ => by omega
  | n + 1, st, _, h5, P, hw => by
    rw [show k + (n + 1) + 2 = (k + n + 2) + 1 by omega, wp_fn A.time rfl]
    unfold B_law_time
    rw [wp_b1]
    refine (time_word (k := k) (s := s) A h5 P hw ne).mono ?_
    rintro _ ⟨w, s1, rfl, hword, g, P1⟩
    have hw1 := g lw _ ne hw
    have sb : ((n + 1 : Nat) : Int) - 1 = (n : Nat) := by omega
    simp only [nxt]
    rcases hword with rfl | ⟨hn, hword⟩
    · simp only [wpS, wps, wp_some, settle_r, nxt, trB, br_t, br_f, isV, List.map_cons, List.map_nil, List.cons_append, List.nil_append, List.replicate, Nat.sub_self, Nat.reduceSub, List.getElem?_cons_zero, List.getElem?_cons_succ, List.set_cons_zero, List.set_cons_succ, permute, List.mapM_cons, List.mapM_nil, Option.pure_def, Option.bind_eq_bind, Option.bind_some, List.length_cons, List.length_nil, bindTg, List.zip_cons_cons, List.zip_nil_left, List.zip_nil_right, List.foldl_cons, List.foldl_nil, PySem.sizeLine_eq, Nat.reduceAdd, Nat.reduceLeDiff, Nat.zero_le, eq_self, true_and, opsI, o_eqS, if_true, nr3]
      refine (w_pickS (k := k + n) A.P P1 hs (by omega)).mono ?_
      rintro ⟨d, s2⟩ ⟨⟨c, mc, rfl⟩, g2, P2⟩
      refine ⟨⟨.lt c, rfl, ⟨hc c mc, by simp [dep], ?_⟩⟩, g.trans g2, P2⟩
      simp only [size]
      unfold SZ
      split <;> omega
    · have ih := fun st => w_time A hs hs2 hc ne n st hn (by omega)
      have one : ∀ w : PySem.Str, (w = "on" ∨ w = "from") → Wp (exB (evF tab (k + n + 2)) [.ret (.tup [(.v 4), (.call it [(.v 0), (.v 1), (.v 2), (.p2 .sub (.v 3) (.k (.int 1)))] [0, 1, 2, 3])])] [some (.ref lp), some (.str s), some (.ref lw), some (.int ((n + 1 : Nat) : Int)), some (.str w), none, none, none] s1)
          fun r => ∃ t s2, r = (.rt (.tup [.str w, enc t]), [some (.ref lp), some (.str s), some (.ref lw), some (.int ((n + 1 : Nat) : Int)), some (.str w), none, none, none], s2) ∧ Tm cs n t ∧ Gw lp s1 s2 ∧ Pot lp s2 := by
        intro w _
        simp only [wpS, wps, wp_some, settle_r, nxt, trB, br_t, br_f, isV, List.map_cons, List.map_nil, List.cons_append, List.nil_append, List.replicate, Nat.sub_self, Nat.reduceSub, List.getElem?_cons_zero, List.getElem?_cons_succ, List.set_cons_zero, List.set_cons_succ, permute, List.mapM_cons, List.mapM_nil, Option.pure_def, Option.bind_eq_bind, Option.bind_some, List.length_cons, List.length_nil, bindTg, List.zip_cons_cons, List.zip_nil_left, List.zip_nil_right, List.foldl_cons, List.foldl_nil, PySem.sizeLine_eq, Nat.reduceAdd, Nat.reduceLeDiff, Nat.zero_le, eq_self, true_and, opsI, o_eqS, if_true, sb]
        refine (ih s1 P1 hw1).mono ?_
        rintro ⟨d, s2⟩ ⟨⟨t, rfl, ht⟩, g2, P2⟩
        simp only [wpS, wps, wp_some, settle_r, nxt, trB, br_t, br_f, isV, List.map_cons, List.map_nil, List.cons_append, List.nil_append, List.replicate, Nat.sub_self, Nat.reduceSub, List.getElem?_cons_zero, List.getElem?_cons_succ, List.set_cons_zero, List.set_cons_succ, permute, List.mapM_cons, List.mapM_nil, Option.pure_def, Option.bind_eq_bind, Option.bind_some, List.length_cons, List.length_nil, bindTg, List.zip_cons_cons, List.zip_nil_left, List.zip_nil_right, List.foldl_cons, List.foldl_nil, PySem.sizeLine_eq, Nat.reduceAdd, Nat.reduceLeDiff, Nat.zero_le, eq_self, true_and, opsI, o_eqS, if_true]
        exact ⟨t, s2, rfl, ht, g2, P2⟩
      have many : ∀ (w : PySem.Str) (m : Nat) (s2 : Sto), Gw lp s1 s2 → Pot lp s2 → m ≤ 10 →
          Wp (exS (evF tab (k + n + 2)) (.asg 6 (.comp 3 [(.v 5)] (.n 7) (.k (.bl true)) (.call it [(.v 0), (.v 1), (.v 2), (.p2 .sub (.v 3) (.k (.int 1)))] [0, 1, 2, 3]))) [some (.ref lp), some (.str s), some (.ref lw), some (.int ((n + 1 : Nat) : Int)), some (.str w), some (.int (m : Nat)), none, none] s2)
          fun r => ∃ (ts : List TL) (s3 : Sto), r = (.nx, [some (.ref lp), some (.str s), some (.ref lw), some (.int ((n + 1 : Nat) : Int)), some (.str w), some (.int (m : Nat)), some (.ref s3.length), none], s3 ++ [.lst (ts.map enc)]) ∧ ts.length = m ∧ (∀ t ∈ ts, Tm cs n t) ∧ Gw lp s1 s3 ∧ Pot lp s3 := by
        intro w m s2 g2 P2 hm
        have ir : iW (evF tab (k + n + 2)) 3 [(.v 5)] [some (.ref lp), some (.str s), some (.ref lw), some (.int ((n + 1 : Nat) : Int)), some (.str w), some (.int (m : Nat)), none, none] s2 = some ((rangeD 0 (m : Nat), []), s2) := i_range (w_v rfl) (by omega) (by omega)
        rw [wp_asg, wp_comp, ir, wp_some]
        refine (wp_compAll (P := fun e => ∃ t, e = enc t ∧ Tm cs n t) (J := fun z => Gw lp s1 z ∧ Pot lp z) (fun _ _ => rfl) _ _ ?_ ?_ ⟨g2, P2⟩).mono ?_
        · rintro d _ z ⟨gz, Pz⟩
          rw [wp_turn]
          simp only [wpS, wps, wp_some, settle_r, nxt, trB, br_t, br_f, isV, List.map_cons, List.map_nil, List.cons_append, List.nil_append, List.replicate, Nat.sub_self, Nat.reduceSub, List.getElem?_cons_zero, List.getElem?_cons_succ, List.set_cons_zero, List.set_cons_succ, permute, List.mapM_cons, List.mapM_nil, Option.pure_def, Option.bind_eq_bind, Option.bind_some, List.length_cons, List.length_nil, bindTg, List.zip_cons_cons, List.zip_nil_left, List.zip_nil_right, List.foldl_cons, List.foldl_nil, PySem.sizeLine_eq, Nat.reduceAdd, Nat.reduceLeDiff, Nat.zero_le, eq_self, true_and, opsI, o_eqS, if_true, sb]
          refine (ih z Pz (gz lw _ ne hw1)).mono ?_
          rintro ⟨d, z2⟩ ⟨⟨t, rfl, ht⟩, gz2, Pz2⟩
          exact ⟨_, rfl, ⟨t, rfl, ht⟩, gz.trans gz2, Pz2⟩
        · rw [rng_len]; have := line100; omega
        · rintro ⟨es, s3⟩ ⟨hl, he, g3, P3⟩
          obtain ⟨ts, rfl, ht⟩ := ex_list he
          refine ⟨ts, s3, rfl, ?_, ht, g3, P3⟩
          simpa [rng_len] using hl
      have fin : ∀ (w : PySem.Str) (v5 : Option D) (t : TL) (Z : Sto), Tm cs (n + 1) t → Gw lp s1 Z → Pot lp Z → (∃ u, enc t = enc u ∧ Tm cs (n + 1) u) ∧ Gw lp st Z ∧ Pot lp Z := fun w v5 t Z ht gz pz => ⟨⟨t, rfl, ht⟩, g.trans gz, pz⟩
      rcases hword with rfl | rfl | rfl | rfl
      · -- row
        have big : ∀ (b : Nat) (z : Sto), 0 < b → b ≤ 2 → Gw lp s1 z → Pot lp z → b ≤ (if n + 1 < 5 then 2 else 1) →
            Wp (evF tab (k + n + 2) id [.ref lp, .int (b : Nat)] z) fun y => (∃ m : Nat, y.1 = .int (m : Nat) ∧ 2 + m ≤ (if n + 1 < 5 then 3 else 2)) ∧ Gw lp s1 y.2 ∧ Pot lp y.2 := by
          intro b z b0 b2 gz Pz hb
          refine (w_draw (k := k + n + 1) A.P Pz (many := (b : Nat)) (by omega) (by omega)).mono ?_
          rintro ⟨d, z2⟩ ⟨⟨m, rfl, hm⟩, g3, P3⟩
          refine ⟨⟨m, rfl, ?_⟩, gz.trans g3, P3⟩
          split at hb <;> split <;> omega
        have dr : Wp (exS (evF tab (k + n + 2)) (.asg 5 (.ite (.p2 .eq (.v 4) (.k (.str "row"))) (.p2 .add (.k (.int 2)) (.call id [(.v 0), (.ite (.p2 .lt (.v 3) (.k (.int 5))) (.k (.int 2)) (.k (.int 1)))] [0, 1])) (.p2 .add (.k (.int 1)) (.call id [(.v 0), (.ite (.p2 .lt (.v 3) (.k (.int 4))) (.k (.int 3)) (.k (.int 2)))] [0, 1]))))
            [some (.ref lp), some (.str s), some (.ref lw), some (.int ((n + 1 : Nat) : Int)), some (.str "row"), none, none, none] s1)
            fun r => ∃ (m : Nat) (s2 : Sto), r = (.nx, [some (.ref lp), some (.str s), some (.ref lw), some (.int ((n + 1 : Nat) : Int)), some (.str "row"), some (.int (m : Nat)), none, none], s2) ∧ 2 ≤ m ∧ m ≤ (if n + 1 < 5 then 3 else 2) ∧ Gw lp s1 s2 ∧ Pot lp s2 := by
          by_cases h : n + 1 < 5
          · have q : decide (((n + 1 : Nat) : Int) < 5) = true := decide_eq_true (by omega)
            simp only [wpS, wps, wp_some, settle_r, nxt, trB, br_t, br_f, isV, List.map_cons, List.map_nil, List.cons_append, List.nil_append, List.replicate, Nat.sub_self, Nat.reduceSub, List.getElem?_cons_zero, List.getElem?_cons_succ, List.set_cons_zero, List.set_cons_succ, permute, List.mapM_cons, List.mapM_nil, Option.pure_def, Option.bind_eq_bind, Option.bind_some, List.length_cons, List.length_nil, bindTg, List.zip_cons_cons, List.zip_nil_left, List.zip_nil_right, List.foldl_cons, List.foldl_nil, PySem.sizeLine_eq, Nat.reduceAdd, Nat.reduceLeDiff, Nat.zero_le, eq_self, true_and, opsI, o_eqS, if_true, nr2, q]
            refine (big 2 s1 (by omega) (by omega) (Gw.refl _ _) P1 (by rw [if_pos h]; omega)).mono ?_
            rintro ⟨d, z⟩ ⟨⟨m, rfl, hm⟩, gz, Pz⟩
            simp only [wpS, wps, wp_some, settle_r, nxt, trB, br_t, br_f, isV, List.map_cons, List.map_nil, List.cons_append, List.nil_append, List.replicate, Nat.sub_self, Nat.reduceSub, List.getElem?_cons_zero, List.getElem?_cons_succ, List.set_cons_zero, List.set_cons_succ, permute, List.mapM_cons, List.mapM_nil, Option.pure_def, Option.bind_eq_bind, Option.bind_some, List.length_cons, List.length_nil, bindTg, List.zip_cons_cons, List.zip_nil_left, List.zip_nil_right, List.foldl_cons, List.foldl_nil, PySem.sizeLine_eq, Nat.reduceAdd, Nat.reduceLeDiff, Nat.zero_le, eq_self, true_and, opsI, o_eqS, if_true]
            exact ⟨2 + m, z, by simp, by omega, by simpa [h] using hm, gz, Pz⟩
          · have q : decide (((n + 1 : Nat) : Int) < 5) = false := decide_eq_false (by omega)
            simp only [wpS, wps, wp_some, settle_r, nxt, trB, br_t, br_f, isV, List.map_cons, List.map_nil, List.cons_append, List.nil_append, List.replicate, Nat.sub_self, Nat.reduceSub, List.getElem?_cons_zero, List.getElem?_cons_succ, List.set_cons_zero, List.set_cons_succ, permute, List.mapM_cons, List.mapM_nil, Option.pure_def, Option.bind_eq_bind, Option.bind_some, List.length_cons, List.length_nil, bindTg, List.zip_cons_cons, List.zip_nil_left, List.zip_nil_right, List.foldl_cons, List.foldl_nil, PySem.sizeLine_eq, Nat.reduceAdd, Nat.reduceLeDiff, Nat.zero_le, eq_self, true_and, opsI, o_eqS, if_true, nr2, q]
            refine (big 1 s1 (by omega) (by omega) (Gw.refl _ _) P1 (by rw [if_neg h]; omega)).mono ?_
            rintro ⟨d, z⟩ ⟨⟨m, rfl, hm⟩, gz, Pz⟩
            simp only [wpS, wps, wp_some, settle_r, nxt, trB, br_t, br_f, isV, List.map_cons, List.map_nil, List.cons_append, List.nil_append, List.replicate, Nat.sub_self, Nat.reduceSub, List.getElem?_cons_zero, List.getElem?_cons_succ, List.set_cons_zero, List.set_cons_succ, permute, List.mapM_cons, List.mapM_nil, Option.pure_def, Option.bind_eq_bind, Option.bind_some, List.length_cons, List.length_nil, bindTg, List.zip_cons_cons, List.zip_nil_left, List.zip_nil_right, List.foldl_cons, List.foldl_nil, PySem.sizeLine_eq, Nat.reduceAdd, Nat.reduceLeDiff, Nat.zero_le, eq_self, true_and, opsI, o_eqS, if_true]
            exact ⟨2 + m, z, by simp, by omega, by simpa [h] using hm, gz, Pz⟩
        refine wp_skip (st1 := s1) (by simp [evW, evs, vD, o_eqS, nl1]) (wp_skip (st1 := s1) (by simp [evW, evA, evs, vD, PySem.sizeLine_eq, o_in2, q4, q7]) (wp_step dr ?_))
        rintro _ ⟨m, s2, rfl, m2, mm, g2, P2⟩
        simp only [nxt]
        refine wp_step (many "row" m s2 g2 P2 (by split at mm <;> omega)) ?_
        rintro _ ⟨ts, s3, rfl, hl, ht, g3, P3⟩
        have tm := row_tm hn (by omega) (by omega) (by omega) ht
        have hz : sizeL ts ≤ 100 := by
          have := tm.sz
          simp only [size, size_flat] at this
          have := sz_100 (n + 1)
          omega
        simp only [wpS, wps, wp_some, settle_r, nxt, trB, br_t, br_f, isV, List.map_cons, List.map_nil, List.cons_append, List.nil_append, List.replicate, Nat.sub_self, Nat.reduceSub, List.getElem?_cons_zero, List.getElem?_cons_succ, List.set_cons_zero, List.set_cons_succ, permute, List.mapM_cons, List.mapM_nil, Option.pure_def, Option.bind_eq_bind, Option.bind_some, List.length_cons, List.length_nil, bindTg, List.zip_cons_cons, List.zip_nil_left, List.zip_nil_right, List.foldl_cons, List.foldl_nil, PySem.sizeLine_eq, Nat.reduceAdd, Nat.reduceLeDiff, Nat.zero_le, eq_self, true_and, opsI, o_eqS, if_true, nr2]
        refine (x_flat (k := k + n + 1) A.flat (at_snoc s3 _) (fun t h => (ht t h).wf) (by omega) hz).mono ?_
        rintro ⟨d, s4⟩ ⟨rfl, x4⟩
        have ex := (Ex.snoc s3 (.lst (ts.map enc))).trans x4
        exact ⟨⟨_, rfl, tm⟩, g.trans (g3.trans ex.gw), P3.ex ex⟩
      · -- mix
        have dr : Wp (exS (evF tab (k + n + 2)) (.asg 5 (.ite (.p2 .eq (.v 4) (.k (.str "row"))) (.p2 .add (.k (.int 2)) (.call id [(.v 0), (.ite (.p2 .lt (.v 3) (.k (.int 5))) (.k (.int 2)) (.k (.int 1)))] [0, 1])) (.p2 .add (.k (.int 1)) (.call id [(.v 0), (.ite (.p2 .lt (.v 3) (.k (.int 4))) (.k (.int 3)) (.k (.int 2)))] [0, 1]))))
            [some (.ref lp), some (.str s), some (.ref lw), some (.int ((n + 1 : Nat) : Int)), some (.str "mix"), none, none, none] s1)
            fun r => ∃ (m : Nat) (s2 : Sto), r = (.nx, [some (.ref lp), some (.str s), some (.ref lw), some (.int ((n + 1 : Nat) : Int)), some (.str "mix"), some (.int (m : Nat)), none, none], s2) ∧ 1 ≤ m ∧ m ≤ (if n + 1 < 4 then 3 else 2) ∧ Gw lp s1 s2 ∧ Pot lp s2 := by
          by_cases h : n + 1 < 4
          · have q : decide (((n + 1 : Nat) : Int) < 4) = true := decide_eq_true (by omega)
            simp only [wpS, wps, wp_some, settle_r, nxt, trB, br_t, br_f, isV, List.map_cons, List.map_nil, List.cons_append, List.nil_append, List.replicate, Nat.sub_self, Nat.reduceSub, List.getElem?_cons_zero, List.getElem?_cons_succ, List.set_cons_zero, List.set_cons_succ, permute, List.mapM_cons, List.mapM_nil, Option.pure_def, Option.bind_eq_bind, Option.bind_some, List.length_cons, List.length_nil, bindTg, List.zip_cons_cons, List.zip_nil_left, List.zip_nil_right, List.foldl_cons, List.foldl_nil, PySem.sizeLine_eq, Nat.reduceAdd, Nat.reduceLeDiff, Nat.zero_le, eq_self, true_and, opsI, o_eqS, if_true, nr1, q]
            refine (w_draw (k := k + n + 1) A.P P1 (many := 3) (by omega) (by omega)).mono ?_
            rintro ⟨d, z⟩ ⟨⟨m, rfl, hm⟩, gz, Pz⟩
            simp only [wpS, wps, wp_some, settle_r, nxt, trB, br_t, br_f, isV, List.map_cons, List.map_nil, List.cons_append, List.nil_append, List.replicate, Nat.sub_self, Nat.reduceSub, List.getElem?_cons_zero, List.getElem?_cons_succ, List.set_cons_zero, List.set_cons_succ, permute, List.mapM_cons, List.mapM_nil, Option.pure_def, Option.bind_eq_bind, Option.bind_some, List.length_cons, List.length_nil, bindTg, List.zip_cons_cons, List.zip_nil_left, List.zip_nil_right, List.foldl_cons, List.foldl_nil, PySem.sizeLine_eq, Nat.reduceAdd, Nat.reduceLeDiff, Nat.zero_le, eq_self, true_and, opsI, o_eqS, if_true]
            exact ⟨1 + m, z, by simp, by omega, by rw [if_pos h]; omega, gz, Pz⟩
          · have q : decide (((n + 1 : Nat) : Int) < 4) = false := decide_eq_false (by omega)
            simp only [wpS, wps, wp_some, settle_r, nxt, trB, br_t, br_f, isV, List.map_cons, List.map_nil, List.cons_append, List.nil_append, List.replicate, Nat.sub_self, Nat.reduceSub, List.getElem?_cons_zero, List.getElem?_cons_succ, List.set_cons_zero, List.set_cons_succ, permute, List.mapM_cons, List.mapM_nil, Option.pure_def, Option.bind_eq_bind, Option.bind_some, List.length_cons, List.length_nil, bindTg, List.zip_cons_cons, List.zip_nil_left, List.zip_nil_right, List.foldl_cons, List.foldl_nil, PySem.sizeLine_eq, Nat.reduceAdd, Nat.reduceLeDiff, Nat.zero_le, eq_self, true_and, opsI, o_eqS, if_true, nr1, q]
            refine (w_draw (k := k + n + 1) A.P P1 (many := 2) (by omega) (by omega)).mono ?_
            rintro ⟨d, z⟩ ⟨⟨m, rfl, hm⟩, gz, Pz⟩
            simp only [wpS, wps, wp_some, settle_r, nxt, trB, br_t, br_f, isV, List.map_cons, List.map_nil, List.cons_append, List.nil_append, List.replicate, Nat.sub_self, Nat.reduceSub, List.getElem?_cons_zero, List.getElem?_cons_succ, List.set_cons_zero, List.set_cons_succ, permute, List.mapM_cons, List.mapM_nil, Option.pure_def, Option.bind_eq_bind, Option.bind_some, List.length_cons, List.length_nil, bindTg, List.zip_cons_cons, List.zip_nil_left, List.zip_nil_right, List.foldl_cons, List.foldl_nil, PySem.sizeLine_eq, Nat.reduceAdd, Nat.reduceLeDiff, Nat.zero_le, eq_self, true_and, opsI, o_eqS, if_true]
            exact ⟨1 + m, z, by simp, by omega, by rw [if_neg h]; omega, gz, Pz⟩
        refine wp_skip (st1 := s1) (by simp [evW, evs, vD, o_eqS, nl4]) (wp_skip (st1 := s1) (by simp [evW, evA, evs, vD, PySem.sizeLine_eq, o_in2, q6, q9]) (wp_step dr ?_))
        rintro _ ⟨m, s2, rfl, m2, mm, g2, P2⟩
        simp only [nxt]
        refine wp_step (many "mix" m s2 g2 P2 (by split at mm <;> omega)) ?_
        rintro _ ⟨ts, s3, rfl, hl, ht, g3, P3⟩
        have tm := mix_tm hn (by omega) (by omega) (by omega) ht
        have tup : op1 .tuple (.val (.ref s3.length)) (s3 ++ [.lst (ts.map enc)]) = some (.val (.tup (ts.map enc)), s3 ++ [.lst (ts.map enc)]) := by simp [op1, seqOf, listOf, vD]
        simp only [wpS, wps, wp_some, settle_r, nxt, trB, br_t, br_f, isV, List.map_cons, List.map_nil, List.cons_append, List.nil_append, List.replicate, Nat.sub_self, Nat.reduceSub, List.getElem?_cons_zero, List.getElem?_cons_succ, List.set_cons_zero, List.set_cons_succ, permute, List.mapM_cons, List.mapM_nil, Option.pure_def, Option.bind_eq_bind, Option.bind_some, List.length_cons, List.length_nil, bindTg, List.zip_cons_cons, List.zip_nil_left, List.zip_nil_right, List.foldl_cons, List.foldl_nil, PySem.sizeLine_eq, Nat.reduceAdd, Nat.reduceLeDiff, Nat.zero_le, eq_self, true_and, opsI, o_eqS, if_true, nr1, tup]
        refine ⟨⟨_, ?_, tm⟩, g.trans (g3.trans (Ex.snoc _ _).gw), P3.ex (Ex.snoc _ _)⟩
        simp [enc, encL_map]
      · refine wp_skip (st1 := s1) (by simp [evW, evs, vD, o_eqS, nl2]) (wp_in (st1 := s1) (by simp [evW, evA, evs, vD, PySem.sizeLine_eq, o_in2]) (one _ (.inl rfl)) ?_)
        rintro _ ⟨t, s2, rfl, ht, g2, P2⟩
        simp only [nxt]
        have := sz_one hn (show n < 5 by omega)
        exact ⟨⟨.on t, rfl, ⟨ht.wf, by have := ht.dp; simp only [dep]; omega, by have := ht.sz; simp only [size]; omega⟩⟩, g.trans g2, P2⟩
      · refine wp_skip (st1 := s1) (by simp [evW, evs, vD, o_eqS, nl3]) (wp_in (st1 := s1) (by simp [evW, evA, evs, vD, PySem.sizeLine_eq, o_in2]) (one _ (.inr rfl)) ?_)
        rintro _ ⟨t, s2, rfl, ht, g2, P2⟩
        simp only [nxt]
        have := sz_one hn (show n < 5 by omega)
        exact ⟨⟨.fr t, rfl, ⟨ht.wf, by have := ht.dp; simp only [dep]; omega, by have := ht.sz; simp only [size]; omega⟩⟩, g.trans g2, P2⟩
end
end Px

end

section
set_option maxHeartbeats 2000000
/-! Px28: a drawn place. -/
namespace Px
open Nx
open PySem (sizeLine)
theorem mem_dep {t : TL} : ∀ {l : List TL}, t ∈ l → dep t ≤ depL l := fun h => by
  obtain ⟨i, hi⟩ := List.getElem?_of_mem h
  exact depL_get hi
theorem isNum {d : Nat} (h : (d : Int) < 2) : ∃ b, D.int (d : Nat) = bitD b := by
  have : d = 0 ∨ d = 1 := by omega
  rcases this with rfl | rfl
  · exact ⟨false, rfl⟩
  · exact ⟨true, rfl⟩
theorem ex_bits : ∀ {es : List D}, (∀ e ∈ es, ∃ b, e = bitD b) → ∃ bs : List Bool, es = bs.map bitD
  | [], _ => ⟨[], rfl⟩
  | e :: r, h => by
    obtain ⟨b, rfl⟩ := h e (by simp)
    obtain ⟨bs, rfl⟩ := ex_bits fun e he => h e (List.mem_cons_of_mem _ he)
    exact ⟨b :: bs, rfl⟩
section
variable {tab : Nat → Option Fn} {k : Nat} {lp id ip ia : Nat} {cs : List Nat}
theorem w_address (A : PickAt tab id ip) (h : tab ia = some ⟨2, 7, B_law_address id ia ip⟩) : ∀ (n : Nat) (t : TL) (st : Sto), dep t ≤ n → Wf cs t → Pot lp st →
    Wp (evF tab (k + n + 2) ia [.ref lp, enc t] st) fun x => (∃ a, x.1 = encA a ∧ Ok t a) ∧ Gw lp st x.2 ∧ Pot lp x.2
  | 0, t, _, hd, _, _ => by have := dep_pos t; omega
  | n + 1, t, st, hd, w, P => by
    have hlp : lp < st.length := by obtain ⟨a, b, e, _⟩ := P; exact (List.getElem?_eq_some_iff.mp e).1
    have ih := fun u st => w_address A h n u st
    rw [show k + (n + 1) + 2 = (k + n + 2) + 1 by omega, wp_fn h rfl]
    unfold B_law_address
    cases t with
    | lt c =>
      simp only [wpS, wps, wp_some, settle_r, nxt, trB, br_t, br_f, isV, List.map_cons, List.map_nil, List.cons_append, List.nil_append, List.replicate, Nat.sub_self, Nat.reduceSub, List.getElem?_cons_zero, List.getElem?_cons_succ, List.set_cons_zero, List.set_cons_succ, permute, List.mapM_cons, List.mapM_nil, Option.pure_def, Option.bind_eq_bind, Option.bind_some, List.length_cons, List.length_nil, bindTg, List.zip_cons_cons, List.zip_nil_left, List.zip_nil_right, List.foldl_cons, List.foldl_nil, PySem.sizeLine_eq, Nat.reduceAdd, Nat.reduceLeDiff, Nat.zero_le, eq_self, true_and, opsI, o_eqS, if_true, isT_enc, isLt]
      exact ⟨⟨.nil, rfl, trivial⟩, Gw.refl _ _, P⟩
    | row l =>
      have h2 := w.1
      have hl := w.2.1
      have hl2 : (encL l).length = l.length := by rw [encL_map, List.length_map]
      simp only [wpS, wps, wp_some, settle_r, nxt, trB, br_t, br_f, isV, List.map_cons, List.map_nil, List.cons_append, List.nil_append, List.replicate, Nat.sub_self, Nat.reduceSub, List.getElem?_cons_zero, List.getElem?_cons_succ, List.set_cons_zero, List.set_cons_succ, permute, List.mapM_cons, List.mapM_nil, Option.pure_def, Option.bind_eq_bind, Option.bind_some, List.length_cons, List.length_nil, bindTg, List.zip_cons_cons, List.zip_nil_left, List.zip_nil_right, List.foldl_cons, List.foldl_nil, PySem.sizeLine_eq, Nat.reduceAdd, Nat.reduceLeDiff, Nat.zero_le, eq_self, true_and, opsI, o_eqS, if_true, isT_enc, isLt]
      simp only [wpS, wps, wp_some, settle_r, nxt, trB, br_t, br_f, isV, List.map_cons, List.map_nil, List.cons_append, List.nil_append, List.replicate, Nat.sub_self, Nat.reduceSub, List.getElem?_cons_zero, List.getElem?_cons_succ, List.set_cons_zero, List.set_cons_succ, permute, List.mapM_cons, List.mapM_nil, Option.pure_def, Option.bind_eq_bind, Option.bind_some, List.length_cons, List.length_nil, bindTg, List.zip_cons_cons, List.zip_nil_left, List.zip_nil_right, List.foldl_cons, List.foldl_nil, PySem.sizeLine_eq, Nat.reduceAdd, Nat.reduceLeDiff, Nat.zero_le, eq_self, true_and, opsI, o_eqS, if_true, enc, hl2]
      refine (w_draw (k := k + n + 1) A P (many := (l.length : Nat)) (by omega) (by omega)).mono ?_
      rintro ⟨d, s1⟩ ⟨⟨i, rfl, hi⟩, g1, P1⟩
      have hi : i < l.length := by omega
      have hg : l[i]? = some l[i] := by simp [hi]
      have ix : op2 .idx (.val (.tup (encL l))) (.val (.int (i : Nat))) s1 = some (.val (enc l[i]), s1) := o_idx (at_nat (encL_get hg))
      have hde := depL_get hg
      simp only [dep] at hd
      simp only [wpS, wps, wp_some, settle_r, nxt, trB, br_t, br_f, isV, List.map_cons, List.map_nil, List.cons_append, List.nil_append, List.replicate, Nat.sub_self, Nat.reduceSub, List.getElem?_cons_zero, List.getElem?_cons_succ, List.set_cons_zero, List.set_cons_succ, permute, List.mapM_cons, List.mapM_nil, Option.pure_def, Option.bind_eq_bind, Option.bind_some, List.length_cons, List.length_nil, bindTg, List.zip_cons_cons, List.zip_nil_left, List.zip_nil_right, List.foldl_cons, List.foldl_nil, PySem.sizeLine_eq, Nat.reduceAdd, Nat.reduceLeDiff, Nat.zero_le, eq_self, true_and, opsI, o_eqS, if_true, ix]
      refine (ih l[i] s1 (by omega) (wfL_mem w.2.2.2 _ (List.getElem_mem _)) P1).mono ?_
      rintro ⟨d, s2⟩ ⟨⟨a, rfl, ha⟩, g2, P2⟩
      simp only [wpS, wps, wp_some, settle_r, nxt, trB, br_t, br_f, isV, List.map_cons, List.map_nil, List.cons_append, List.nil_append, List.replicate, Nat.sub_self, Nat.reduceSub, List.getElem?_cons_zero, List.getElem?_cons_succ, List.set_cons_zero, List.set_cons_succ, permute, List.mapM_cons, List.mapM_nil, Option.pure_def, Option.bind_eq_bind, Option.bind_some, List.length_cons, List.length_nil, bindTg, List.zip_cons_cons, List.zip_nil_left, List.zip_nil_right, List.foldl_cons, List.foldl_nil, PySem.sizeLine_eq, Nat.reduceAdd, Nat.reduceLeDiff, Nat.zero_le, eq_self, true_and, opsI, o_eqS, if_true]
      exact ⟨⟨.num i a, rfl, _, hg, ha⟩, g1.trans g2, P2⟩
    | mix l =>
      have h2 := w.1
      have hl := w.2.1
      have hl2 : (encL l).length = l.length := by rw [encL_map, List.length_map]
      have nr : decide (("mix" : PySem.Str) = "mix") = true := by decide
      simp only [wpS, wps, wp_some, settle_r, nxt, trB, br_t, br_f, isV, List.map_cons, List.map_nil, List.cons_append, List.nil_append, List.replicate, Nat.sub_self, Nat.reduceSub, List.getElem?_cons_zero, List.getElem?_cons_succ, List.set_cons_zero, List.set_cons_succ, permute, List.mapM_cons, List.mapM_nil, Option.pure_def, Option.bind_eq_bind, Option.bind_some, List.length_cons, List.length_nil, bindTg, List.zip_cons_cons, List.zip_nil_left, List.zip_nil_right, List.foldl_cons, List.foldl_nil, PySem.sizeLine_eq, Nat.reduceAdd, Nat.reduceLeDiff, Nat.zero_le, eq_self, true_and, opsI, o_eqS, if_true, isT_enc, isLt]
      simp only [wpS, wps, wp_some, settle_r, nxt, trB, br_t, br_f, isV, List.map_cons, List.map_nil, List.cons_append, List.nil_append, List.replicate, Nat.sub_self, Nat.reduceSub, List.getElem?_cons_zero, List.getElem?_cons_succ, List.set_cons_zero, List.set_cons_succ, permute, List.mapM_cons, List.mapM_nil, Option.pure_def, Option.bind_eq_bind, Option.bind_some, List.length_cons, List.length_nil, bindTg, List.zip_cons_cons, List.zip_nil_left, List.zip_nil_right, List.foldl_cons, List.foldl_nil, PySem.sizeLine_eq, Nat.reduceAdd, Nat.reduceLeDiff, Nat.zero_le, eq_self, true_and, opsI, o_eqS, if_true, enc, hl2, nr1, nr, wp_comp]
      refine (w_draw (k := k + n + 1) A P (many := 6) (by omega) (by omega)).mono ?_
      rintro ⟨d, s1⟩ ⟨⟨m, rfl, hm⟩, g1, P1⟩
      simp only [wpS, wps, wp_some, settle_r, nxt, trB, br_t, br_f, isV, List.map_cons, List.map_nil, List.cons_append, List.nil_append, List.replicate, Nat.sub_self, Nat.reduceSub, List.getElem?_cons_zero, List.getElem?_cons_succ, List.set_cons_zero, List.set_cons_succ, permute, List.mapM_cons, List.mapM_nil, Option.pure_def, Option.bind_eq_bind, Option.bind_some, List.length_cons, List.length_nil, bindTg, List.zip_cons_cons, List.zip_nil_left, List.zip_nil_right, List.foldl_cons, List.foldl_nil, PySem.sizeLine_eq, Nat.reduceAdd, Nat.reduceLeDiff, Nat.zero_le, eq_self, true_and, opsI, o_eqS, if_true, walk_range1 (show (m : Int) < 1000000 by omega) (show (-1000000 : Int) < m by omega)]
      refine (wp_compAll (P := fun e => ∃ b, e = bitD b) (J := fun z => Gw lp st z ∧ Pot lp z) (fun _ _ => rfl) _ _ ?_ ?_ ⟨g1, P1⟩).mono ?_
      · rintro d _ z ⟨gz, Pz⟩
        rw [wp_turn]
        simp only [wpS, wps, wp_some, settle_r, nxt, trB, br_t, br_f, isV, List.map_cons, List.map_nil, List.cons_append, List.nil_append, List.replicate, Nat.sub_self, Nat.reduceSub, List.getElem?_cons_zero, List.getElem?_cons_succ, List.set_cons_zero, List.set_cons_succ, permute, List.mapM_cons, List.mapM_nil, Option.pure_def, Option.bind_eq_bind, Option.bind_some, List.length_cons, List.length_nil, bindTg, List.zip_cons_cons, List.zip_nil_left, List.zip_nil_right, List.foldl_cons, List.foldl_nil, PySem.sizeLine_eq, Nat.reduceAdd, Nat.reduceLeDiff, Nat.zero_le, eq_self, true_and, opsI, o_eqS, if_true]
        refine (w_draw (k := k + n + 1) A Pz (many := 2) (by omega) (by omega)).mono ?_
        rintro ⟨d, z2⟩ ⟨⟨b, rfl, hb⟩, gz2, Pz2⟩
        exact ⟨_, rfl, isNum hb, gz.trans gz2, Pz2⟩
      · rw [rng_len]; have := line100; omega
      · rintro ⟨es, s2⟩ ⟨hln, he, g2, P2⟩
        obtain ⟨bs, rfl⟩ := ex_bits he
        simp only [rng_len, List.length_map] at hln
        have hb : bs.length % l.length < l.length := Nat.mod_lt _ (by omega)
        have hg : l[bs.length % l.length]? = some l[bs.length % l.length] := by simp [hb]
        have md : op2 .mod (.val (.int ((bs.map bitD).length : Nat))) (.val (.int ((encL l).length : Nat))) s2 = some (.val (.int ((bs.length % l.length : Nat) : Int)), s2) := by
          rw [hl2, List.length_map, o_mod (by omega)]
          simp
        rw [hl2] at md
        have ix : op2 .idx (.val (.tup (encL l))) (.val (.int ((bs.length % l.length : Nat) : Int))) s2 = some (.val (enc l[bs.length % l.length]), s2) := o_idx (at_nat (encL_get hg))
        have hde := depL_get hg
        simp only [dep] at hd
        have ii : ∀ z : Int, op1 .int (.val (.int z)) s2 = some (.val (.int z), s2) := fun _ => rfl
        simp only [wpS, wps, wp_some, settle_r, nxt, trB, br_t, br_f, isV, List.map_cons, List.map_nil, List.cons_append, List.nil_append, List.replicate, Nat.sub_self, Nat.reduceSub, List.getElem?_cons_zero, List.getElem?_cons_succ, List.set_cons_zero, List.set_cons_succ, permute, List.mapM_cons, List.mapM_nil, Option.pure_def, Option.bind_eq_bind, Option.bind_some, List.length_cons, List.length_nil, bindTg, List.zip_cons_cons, List.zip_nil_left, List.zip_nil_right, List.foldl_cons, List.foldl_nil, PySem.sizeLine_eq, Nat.reduceAdd, Nat.reduceLeDiff, Nat.zero_le, eq_self, true_and, opsI, o_eqS, if_true, hl2, ii, md, ix]
        refine (ih _ s2 (by omega) (wfL_mem w.2.2 _ (List.getElem_mem _)) P2).mono ?_
        rintro ⟨d, s3⟩ ⟨⟨a, rfl, ha⟩, g3, P3⟩
        simp only [wpS, wps, wp_some, settle_r, nxt, trB, br_t, br_f, isV, List.map_cons, List.map_nil, List.cons_append, List.nil_append, List.replicate, Nat.sub_self, Nat.reduceSub, List.getElem?_cons_zero, List.getElem?_cons_succ, List.set_cons_zero, List.set_cons_succ, permute, List.mapM_cons, List.mapM_nil, Option.pure_def, Option.bind_eq_bind, Option.bind_some, List.length_cons, List.length_nil, bindTg, List.zip_cons_cons, List.zip_nil_left, List.zip_nil_right, List.foldl_cons, List.foldl_nil, PySem.sizeLine_eq, Nat.reduceAdd, Nat.reduceLeDiff, Nat.zero_le, eq_self, true_and, opsI, o_eqS, if_true]
        exact ⟨⟨.node bs a, rfl, by omega, _, hg, ha⟩, g2.trans g3, P3⟩
    | _ t =>
      simp only [dep] at hd
      have e : ∃ w : PySem.Str, (w = "on" ∨ w = "from") ∧ True := ⟨"on", .inl rfl, trivial⟩
      simp only [wpS, wps, wp_some, settle_r, nxt, trB, br_t, br_f, isV, List.map_cons, List.map_nil, List.cons_append, List.nil_append, List.replicate, Nat.sub_self, Nat.reduceSub, List.getElem?_cons_zero, List.getElem?_cons_succ, List.set_cons_zero, List.set_cons_succ, permute, List.mapM_cons, List.mapM_nil, Option.pure_def, Option.bind_eq_bind, Option.bind_some, List.length_cons, List.length_nil, bindTg, List.zip_cons_cons, List.zip_nil_left, List.zip_nil_right, List.foldl_cons, List.foldl_nil, PySem.sizeLine_eq, Nat.reduceAdd, Nat.reduceLeDiff, Nat.zero_le, eq_self, true_and, opsI, o_eqS, if_true, isT_enc, isLt]
      simp only [wpS, wps, wp_some, settle_r, nxt, trB, br_t, br_f, isV, List.map_cons, List.map_nil, List.cons_append, List.nil_append, List.replicate, Nat.sub_self, Nat.reduceSub, List.getElem?_cons_zero, List.getElem?_cons_succ, List.set_cons_zero, List.set_cons_succ, permute, List.mapM_cons, List.mapM_nil, Option.pure_def, Option.bind_eq_bind, Option.bind_some, List.length_cons, List.length_nil, bindTg, List.zip_cons_cons, List.zip_nil_left, List.zip_nil_right, List.foldl_cons, List.foldl_nil, PySem.sizeLine_eq, Nat.reduceAdd, Nat.reduceLeDiff, Nat.zero_le, eq_self, true_and, opsI, o_eqS, if_true, enc, p4', p6', p7', p9', decide_false]
      refine (w_pick (k := k + n) A (P.ex (Ex.snoc _ _)) (at_snoc st _) (by omega) (by simp) (by simp)).mono ?_
      rintro ⟨d, s1⟩ ⟨m, g1, P1⟩
      have g1 := (Ex.snoc st _).gw.trans g1
      have hd2 : ∃ v : Nat, d = .int (v : Nat) ∧ 0 < v ∧ v ≤ 40 := by
        simp only [List.mem_cons, List.not_mem_nil, or_false] at m
        rcases m with rfl | rfl | rfl | rfl
        · exact ⟨1, rfl, by omega, by omega⟩
        · exact ⟨2, rfl, by omega, by omega⟩
        · exact ⟨3, rfl, by omega, by omega⟩
        · exact ⟨40, rfl, by omega, by omega⟩
      obtain ⟨v, rfl, v0, v1⟩ := hd2
      simp only [wpS, wps, wp_some, settle_r, nxt, trB, br_t, br_f, isV, List.map_cons, List.map_nil, List.cons_append, List.nil_append, List.replicate, Nat.sub_self, Nat.reduceSub, List.getElem?_cons_zero, List.getElem?_cons_succ, List.set_cons_zero, List.set_cons_succ, permute, List.mapM_cons, List.mapM_nil, Option.pure_def, Option.bind_eq_bind, Option.bind_some, List.length_cons, List.length_nil, bindTg, List.zip_cons_cons, List.zip_nil_left, List.zip_nil_right, List.foldl_cons, List.foldl_nil, PySem.sizeLine_eq, Nat.reduceAdd, Nat.reduceLeDiff, Nat.zero_le, eq_self, true_and, opsI, o_eqS, if_true]
      refine (w_draw (k := k + n + 1) A P1 (many := (v : Nat)) (by omega) (by omega)).mono ?_
      rintro ⟨d, s2⟩ ⟨⟨i, rfl, hi⟩, g2, P2⟩
      simp only [wpS, wps, wp_some, settle_r, nxt, trB, br_t, br_f, isV, List.map_cons, List.map_nil, List.cons_append, List.nil_append, List.replicate, Nat.sub_self, Nat.reduceSub, List.getElem?_cons_zero, List.getElem?_cons_succ, List.set_cons_zero, List.set_cons_succ, permute, List.mapM_cons, List.mapM_nil, Option.pure_def, Option.bind_eq_bind, Option.bind_some, List.length_cons, List.length_nil, bindTg, List.zip_cons_cons, List.zip_nil_left, List.zip_nil_right, List.foldl_cons, List.foldl_nil, PySem.sizeLine_eq, Nat.reduceAdd, Nat.reduceLeDiff, Nat.zero_le, eq_self, true_and, opsI, o_eqS, if_true]
      refine (ih t s2 (by omega) w P2).mono ?_
      rintro ⟨d, s3⟩ ⟨⟨a, rfl, ha⟩, g3, P3⟩
      simp only [wpS, wps, wp_some, settle_r, nxt, trB, br_t, br_f, isV, List.map_cons, List.map_nil, List.cons_append, List.nil_append, List.replicate, Nat.sub_self, Nat.reduceSub, List.getElem?_cons_zero, List.getElem?_cons_succ, List.set_cons_zero, List.set_cons_succ, permute, List.mapM_cons, List.mapM_nil, Option.pure_def, Option.bind_eq_bind, Option.bind_some, List.length_cons, List.length_nil, bindTg, List.zip_cons_cons, List.zip_nil_left, List.zip_nil_right, List.foldl_cons, List.foldl_nil, PySem.sizeLine_eq, Nat.reduceAdd, Nat.reduceLeDiff, Nat.zero_le, eq_self, true_and, opsI, o_eqS, if_true]
      exact ⟨⟨.num i a, rfl, by omega, ha⟩, (g1.trans g2).trans g3, P3⟩
end
end Px

end

section
set_option maxHeartbeats 2000000
/-! Px29: values that stay as they are, whatever is drawn. -/
namespace Px
open Nx
open PySem (PyData sizeLine)
/-- data that can be shown on a line -/
structure Gd (w : Nat) (p : PyData) : Prop where
  sh : p.showable = true
  lv : p.leavesShort 40 = true
  wt : p.weight ≤ w
theorem Gd.up {w z : Nat} {p : PyData} (h : Gd w p) (q : w ≤ z) : Gd z p := ⟨h.sh, h.lv, Nat.le_trans h.wt q⟩
theorem Gd.len {w : Nat} {p : PyData} (h : Gd w p) (q : w ≤ 300000) : p.shown.length ≤ sizeLine := by
  have a := PyData.shown_le 40 (by decide) p h.lv
  have b := h.wt
  have c : (40 + 2) * p.weight + 40 ≤ 15000000 := by omega
  have d : (15000000 : Nat) ≤ sizeLine := by decide
  omega
/-- v stands for the same data in each later store -/
def Pv (lp n w : Nat) (st : Sto) (v : D) : Prop := ∃ p, Gd w p ∧ ∀ st', Gw lp st st' → toPy st' n v = some p
def PvL (lp n : Nat) (st : Sto) : List D → Nat → Prop
  | [], _ => True
  | d :: r, w => ∃ a b, a + 1 + b ≤ w ∧ Pv lp n a st d ∧ PvL lp n st r b
section
variable {lp n m w z : Nat} {st st' : Sto} {v d : D} {ds es : List D}
theorem Pv.gw (h : Pv lp n w st v) (g : Gw lp st st') : Pv lp n w st' v := h.elim fun p q => ⟨p, q.1, fun s g2 => q.2 s (g.trans g2)⟩
theorem Pv.py (h : Pv lp n w st v) : Py st n v := h.elim fun p q => ⟨p, q.2 st (Gw.refl _ _)⟩
theorem Pv.ups (h : Pv lp n w st v) (hn : n ≤ m) (hw : w ≤ z) : Pv lp m z st v := h.elim fun p q => ⟨p, q.1.up hw, fun s g => py_le (q.2 s g) hn⟩
theorem PvL.gw : ∀ {ds : List D} {w : Nat}, PvL lp n st ds w → Gw lp st st' → PvL lp n st' ds w
  | [], _, _, _ => trivial
  | _ :: _, _, ⟨a, b, q, h1, h2⟩, g => ⟨a, b, q, h1.gw g, h2.gw g⟩
theorem PvL.ups : ∀ {ds : List D} {w z : Nat}, PvL lp n st ds w → n ≤ m → w ≤ z → PvL lp m st ds z
  | [], _, _, _, _, _ => trivial
  | _ :: _, _, _, ⟨a, b, q, h1, h2⟩, g, e => ⟨a, b, Nat.le_trans q e, h1.ups g (Nat.le_refl _), h2.ups g (Nat.le_refl _)⟩
theorem PvL.mem : ∀ {ds : List D} {w : Nat}, PvL lp n st ds w → ∀ d ∈ ds, Pv lp n w st d
  | [], _, _, _, h => nomatch h
  | e :: r, w, ⟨a, b, q, h1, h2⟩, d, h => by
    rcases List.mem_cons.mp h with e | e
    · subst e; exact h1.ups (Nat.le_refl _) (by omega)
    · exact (h2.mem d e).ups (Nat.le_refl _) (by omega)
theorem PvL.len : ∀ {ds : List D} {w : Nat}, PvL lp n st ds w → ds.length ≤ w
  | [], _, _ => Nat.zero_le _
  | e :: r, w, ⟨a, b, q, h1, h2⟩ => by have := h2.len; simp only [List.length_cons]; omega
theorem PvL.app : ∀ {ds es : List D} {w z : Nat}, PvL lp n st ds w → PvL lp n st es z → PvL lp n st (ds ++ es) (w + z)
  | [], _, _, _, _, h => h.ups (Nat.le_refl _) (by omega)
  | _ :: _, es, w, z, ⟨a, b, q, h1, h2⟩, h => ⟨a, b + z, by omega, h1, h2.app h⟩
theorem PvL.take : ∀ {ds : List D} {w : Nat} (i : Nat), PvL lp n st ds w → PvL lp n st (ds.take i) w
  | [], _, i, _ => by simp [PvL]
  | _ :: _, _, 0, _ => trivial
  | _ :: _, _, i + 1, ⟨a, b, q, h1, h2⟩ => ⟨a, b, q, h1, h2.take i⟩
theorem PvL.drop : ∀ {ds : List D} {w : Nat} (i : Nat), PvL lp n st ds w → PvL lp n st (ds.drop i) w
  | [], _, i, _ => by simp [PvL]
  | _ :: _, _, 0, h => h
  | _ :: _, _, i + 1, ⟨a, b, q, h1, h2⟩ => (h2.drop i).ups (Nat.le_refl _) (by omega)
theorem PvL.rev : ∀ {ds : List D} {w : Nat}, PvL lp n st ds w → PvL lp n st ds.reverse w
  | [], _, _ => trivial
  | e :: r, w, ⟨a, b, q, h1, h2⟩ => by
    rw [List.reverse_cons]
    exact (h2.rev.app (es := [e]) (z := a + 1) ⟨a, 0, by omega, h1, trivial⟩).ups (Nat.le_refl _) (by omega)
theorem PvL.cons (h : Pv lp n w st d) (g : PvL lp n st ds z) : PvL lp n st (d :: ds) (w + 1 + z) := ⟨w, z, Nat.le_refl _, h, g⟩
theorem PvL.rep (h : PvL lp n st ds w) : ∀ i : Nat, PvL lp n st (List.replicate i ds).flatten (i * w)
  | 0 => trivial
  | i + 1 => by
    rw [List.replicate_succ, List.flatten_cons]
    exact (h.app (h.rep i)).ups (Nat.le_refl _) (by rw [Nat.add_mul]; omega)
/-- the data of a list's things -/
theorem PvL.all : ∀ {ds : List D} {w : Nat}, PvL lp n st ds w → ∃ ps, PyData.showableAll ps = true ∧ PyData.leavesShortAll 40 ps = true ∧ PyData.weightAll ps ≤ w ∧ ∀ st', Gw lp st st' → ds.mapM (toPy st' n) = some ps
  | [], _, _ => ⟨[], rfl, rfl, Nat.zero_le _, fun _ _ => by simp⟩
  | e :: r, w, ⟨a, b, q, ⟨p, g, hp⟩, h2⟩ => by
    obtain ⟨ps, s1, s2, s3, s4⟩ := h2.all
    refine ⟨p :: ps, by simp [PyData.showableAll, g.sh, s1], by simp [PyData.leavesShortAll, g.lv, s2], ?_, fun s gs => by simp [hp s gs, s4 s gs]⟩
    have := g.wt
    simp only [PyData.weightAll]
    omega
theorem PvL.tup (h : PvL lp n st ds w) : Pv lp (n + 1) w st (.tup ds) := by
  obtain ⟨ps, s1, s2, s3, s4⟩ := h.all
  exact ⟨.tuple ps, ⟨by simpa [PyData.showable] using s1, by simpa [PyData.leavesShort] using s2, by simpa [PyData.weight] using s3⟩, fun s g => by rw [toPy, s4 s g]; rfl⟩
theorem PvL.ref {l : Nat} (hl : st[l]? = some (.lst ds)) (ne : l ≠ lp) (h : PvL lp n st ds w) : Pv lp (n + 1) w st (.ref l) := by
  obtain ⟨ps, s1, s2, s3, s4⟩ := h.all
  exact ⟨.list ps, ⟨by simpa [PyData.showable] using s1, by simpa [PyData.leavesShort] using s2, by simpa [PyData.weight] using s3⟩, fun s g => by rw [toPy, g l _ ne hl]; simp only; rw [s4 s g]; rfl⟩
theorem PvL.of_all : ∀ {ds : List D} {ps : List PyData} {w : Nat}, PyData.showableAll ps = true → PyData.leavesShortAll 40 ps = true → PyData.weightAll ps ≤ w → (∀ st', Gw lp st st' → ds.mapM (toPy st' n) = some ps) → PvL lp n st ds w
  | [], _, _, _, _, _, _ => trivial
  | d :: r, ps, w, h1, h2, h3, h => by
    have h0 := h st (Gw.refl _ _)
    simp only [List.mapM_cons, Option.bind_eq_bind, Option.bind_eq_some_iff, Option.pure_def, Option.some.injEq] at h0
    obtain ⟨p, _, q, _, rfl⟩ := h0
    simp only [PyData.showableAll, Bool.and_eq_true, PyData.leavesShortAll, PyData.weightAll] at h1 h2 h3
    have hh : ∀ st', Gw lp st st' → toPy st' n d = some p ∧ r.mapM (toPy st' n) = some q := fun s g => by
      have e := h s g
      simp only [List.mapM_cons, Option.bind_eq_bind, Option.bind_eq_some_iff, Option.pure_def, Option.some.injEq] at e
      obtain ⟨p', e1, q', e2, e3⟩ := e
      simp only [List.cons.injEq] at e3
      obtain ⟨rfl, rfl⟩ := e3
      exact ⟨e1, e2⟩
    exact ⟨p.weight, PyData.weightAll q, h3, ⟨p, ⟨h1.1, h2.1, Nat.le_refl _⟩, fun s g => (hh s g).1⟩, PvL.of_all h1.2 h2.2 (Nat.le_refl _) fun s g => (hh s g).2⟩
theorem Pv.items (h : Pv lp (n + 1) w st (.tup ds)) : PvL lp n st ds w := by
  obtain ⟨p, g, hp⟩ := h
  have h0 := hp st (Gw.refl _ _)
  rw [toPy, Option.map_eq_some_iff] at h0
  obtain ⟨ps, _, rfl⟩ := h0
  refine PvL.of_all (ps := ps) (by simpa [PyData.showable] using g.sh) (by simpa [PyData.leavesShort] using g.lv) (by simpa [PyData.weight] using g.wt) fun s gs => ?_
  have e := hp s gs
  rw [toPy, Option.map_eq_some_iff] at e
  obtain ⟨ps', e1, e2⟩ := e
  cases e2
  exact e1
theorem Pv.tupN (h : Pv lp n w st (.tup ds)) : ∃ m, n = m + 1 ∧ PvL lp m st ds w := by
  cases n with
  | zero => obtain ⟨p, _, hp⟩ := h; have := hp st (Gw.refl _ _); simp [toPy] at this
  | succ m => exact ⟨m, rfl, h.items⟩
theorem Pv.non : Pv lp n 0 st .non := ⟨.none, ⟨rfl, rfl, Nat.le_refl _⟩, fun _ _ => by cases n <;> rfl⟩
theorem Pv.bl {b : Bool} : Pv lp n 0 st (.bl b) := ⟨.bool b, ⟨rfl, rfl, Nat.le_refl _⟩, fun _ _ => by cases n <;> rfl⟩
theorem int40 {i : Int} (h : i.natAbs < 10 ^ 38) : Gd 130 (.int i) := by
  have b : i.natAbs < 2 ^ 129 := Nat.lt_of_lt_of_le h (by decide)
  have l := log2_le b
  refine ⟨by simp only [PyData.showable]; exact decide_eq_true (by omega), ?_, ?_⟩
  · have e := PySem.int_text_length_le10 (k := 38) (by decide) h
    have q : (PyData.shown (.int i)).length ≤ 40 := by
      show (PySem.Str.ofString (toString i)).length ≤ 40
      rw [PySem.ofString_length]
      omega
    simp only [PyData.leavesShort]
    exact decide_eq_true q
  · simp only [PyData.weight]
    split <;> omega
theorem Pv.int {i : Int} (h : i.natAbs < 10 ^ 38) : Pv lp n 130 st (.int i) := ⟨.int i, int40 h, fun _ _ => by cases n <;> rfl⟩
theorem Pv.nat {i : Nat} (h : i < 1000000) : Pv lp n 130 st (.int (i : Nat)) := .int (by have : (1000000 : Nat) ≤ 10 ^ 38 := by decide
                                                                                         omega)
theorem Pv.str {s : PySem.Str} (h : PyData.strOk s = true) (h2 : (s.cps.toList.all fun c => decide (c < 16 ^ 8)) = true) : Pv lp n s.cps.size st (.str s) := ⟨.str s, ⟨rfl, by simp only [PyData.leavesShort]; exact h2, Nat.le_refl _⟩, fun _ _ => by cases n <;> simp [toPy, h]⟩
/-- its text can be laid -/
theorem Pv.repr (h : Pv lp 60 w st v) (hw : w ≤ 300000) : ∃ s, ∀ st', Gw lp st st' → op1 .repr (.val v) st' = some (.val (.str s), st') := by
  obtain ⟨p, g, hp⟩ := h
  refine ⟨p.shown, fun s gs => ?_⟩
  simp only [op1, toPyW, hp s gs]
  rw [if_pos ⟨g.sh, g.len hw⟩]
  rfl
end
end Px

end

section
set_option maxHeartbeats 2000000
/-! Px30: a value bent by one thing. -/
namespace Px
open Nx
open PySem (PyData sizeLine)
section
variable {st : Sto}
theorem ne_of_eq {x y : W} {b : Bool} (h : op2 .eq x y st = some (.val (.bl b), st)) : op2 .ne x y st = some (.val (.bl (!b)), st) := by
  simp only [op2] at h ⊢
  cases q : eqD st x y with
  | none => rw [q] at h; cases h
  | some c =>
    rw [q] at h
    simp only [vB, vD, Option.some.injEq, Prod.mk.injEq, W.val.injEq, D.bl.injEq, and_true] at h
    subst h
    rfl
theorem ne_nil {v : D} (h : Py st 60 v) : op2 .ne (.val v) (.val (.tup [])) st = some (.val (.bl (!isNil v)), st) := ne_of_eq (eq_nil h)
theorem at_last {α : Type} (xs : List α) (x : α) : L2.atI (xs ++ [x]) (-1) = some x := by
  unfold L2.atI L2.ixN
  have h1 : ¬ (0 : Int) ≤ -1 := by omega
  have h2 : -(((xs ++ [x]).length : Nat) : Int) ≤ -1 := by simp; omega
  have h3 : ((-1 : Int) + (((xs ++ [x]).length : Nat) : Int)).toNat = xs.length := by simp; omega
  rw [if_neg h1, if_pos h2]
  show (xs ++ [x])[((-1 : Int) + (((xs ++ [x]).length : Nat) : Int)).toNat]? = some x
  rw [h3]
  simp
theorem isU_nil {v : D} (h : (isU v && !isNil v) = true) : ∃ d ds, v = .tup (d :: ds) := by
  cases v with
  | tup ds =>
    cases ds with
    | nil => cases h
    | cons d ds => exact ⟨d, ds, rfl⟩
  | _ => cases h
theorem p10_30 : op2 .pow (.val (.int 10)) (.val (.int 30)) st = some (.val (.int 1000000000000000000000000000000), st) := by
  simp [op2, vI, vD]
theorem mul100 : op2 .mul (.val (.tup [.int 0])) (.val (.int 100)) st = some (.val (.tup (List.replicate 100 [D.int 0]).flatten), st) := by
  simp [op2, vD]
theorem mul101 : op2 .mul (.val (.tup [.int 1])) (.val (.int 101)) st = some (.val (.tup (List.replicate 101 [D.int 1]).flatten), st) := by
  simp [op2, vD]
theorem cut_pv {lp n w : Nat} {ds : List D} (h : PvL lp n st ds w) (lo hi : Option Int) : PvL lp n st (cutD ds lo hi) w := (h.drop _).take _
theorem cut_len {ds : List D} (lo hi : Option Int) : (cutD ds lo hi).length ≤ ds.length := by
  simp only [cutD, List.length_take, List.length_drop]
  omega
theorem line3 : (300000 : Nat) ≤ sizeLine := by decide
end
/-- a part gone into, with the place -/
def WayOk (lp n w : Nat) (st : Sto) (e : D) : Prop := ∃ ds : List D, ∃ i : Nat, e = .tup [.tup ds, .int (i : Nat)] ∧ PvL lp n st ds w
section
variable {tab : Nat → Option Fn} {k : Nat} {lp id ip ib : Nat}
abbrev bent1 (id : Nat) : List Nx.S := [.ite (.and (.p1 (.isT "tuple") (.v 6)) (.p2 .ne (.v 6) (.tup []))) [.ex (.m1 .l .append (.v 5) (.tup [(.v 6), (.call id [(.v 0), (.p1 .len (.v 6))] [0, 1])])), .asg 6 (.p2 .idx (.v 6) (.p2 .idx (.p2 .idx (.v 5) (.p1 .neg (.k (.int 1)))) (.k (.int 1))))] []]
theorem bent_way (A : PickAt tab id ip) {st : Sto} {v : D} {n w : Nat} (P : Pot lp st) (hv : Pv lp n w st v) (hn : n ≤ 40) (hw : w ≤ 10000) :
    Wp (exS (evF tab (k + 2)) (.for_ 3 [(.call id [(.v 0), (.k (.int 6))] [0, 1])] (.n 2) (bent1 id)) [some (.ref lp), some v, none, none, none, some (.ref st.length), some v, none, none] (st ++ [.lst []]))
      fun r => ∃ (ways : List D) (here : D) (o2 : Option D) (s1 : Sto), r = (.nx, [some (.ref lp), some v, o2, none, none, some (.ref st.length), some here, none, none], s1) ∧ s1[st.length]? = some (.lst ways) ∧
        Gw lp st s1 ∧ Pot lp s1 ∧ Pv lp n w st here ∧ (∀ e ∈ ways, WayOk lp n w st e) ∧ ways.length ≤ 5 := by
  have hlp : lp < st.length := by obtain ⟨a, b, e, _⟩ := P; exact (List.getElem?_eq_some_iff.mp e).1
  rw [wp_for]
  simp only [wpS, wps, wp_some, settle_r, nxt, trB, br_t, br_f, isV, List.map_cons, List.map_nil, List.cons_append, List.nil_append, List.replicate, Nat.sub_self, Nat.reduceSub, List.getElem?_cons_zero, List.getElem?_cons_succ, List.set_cons_zero, List.set_cons_succ, permute, List.mapM_cons, List.mapM_nil, Option.pure_def, Option.bind_eq_bind, Option.bind_some, List.length_cons, List.length_nil, bindTg, List.zip_cons_cons, List.zip_nil_left, List.zip_nil_right, List.foldl_cons, List.foldl_nil, PySem.sizeLine_eq, Nat.reduceAdd, Nat.reduceLeDiff, Nat.zero_le, eq_self, true_and, opsI, o_eqS, if_true]
  refine (w_draw (k := k + 1) A (P.ex (Ex.snoc _ _)) (many := 6) (by omega) (by omega)).mono ?_
  rintro ⟨d, s0⟩ ⟨⟨m, rfl, hm⟩, g1, P1⟩
  simp only [wpS, wps, wp_some, settle_r, nxt, trB, br_t, br_f, isV, List.map_cons, List.map_nil, List.cons_append, List.nil_append, List.replicate, Nat.sub_self, Nat.reduceSub, List.getElem?_cons_zero, List.getElem?_cons_succ, List.set_cons_zero, List.set_cons_succ, permute, List.mapM_cons, List.mapM_nil, Option.pure_def, Option.bind_eq_bind, Option.bind_some, List.length_cons, List.length_nil, bindTg, List.zip_cons_cons, List.zip_nil_left, List.zip_nil_right, List.foldl_cons, List.foldl_nil, PySem.sizeLine_eq, Nat.reduceAdd, Nat.reduceLeDiff, Nat.zero_le, eq_self, true_and, opsI, o_eqS, if_true, walk_range1 (show (m : Int) < 1000000 by omega) (show (-1000000 : Int) < m by omega)]
  refine wp_forLoop (fun r ρ s => ∃ (ways : List D) (here : D) (o2 : Option D), ρ = [some (.ref lp), some v, o2, none, none, some (.ref st.length), some here, none, none] ∧ s[st.length]? = some (.lst ways) ∧
        Gw lp st s ∧ Pot lp s ∧ Pv lp n w st here ∧ (∀ e ∈ ways, WayOk lp n w st e) ∧ ways.length + r.length ≤ 5) (fun _ _ _ _ => rfl) ?_ ?_ _ _ _ ?_
  · rintro d r ρ s ⟨ways, here, o2, rfl, hwy, g, Ps, hh, wo, wl⟩
    have hs := hh.gw g
    have hs60 := hs.ups (m := 60) (z := w) (by omega) (Nat.le_refl _)
    have cond : evW (evF tab (k + 2)) (.and (.p1 (.isT "tuple") (.v 6)) (.p2 .ne (.v 6) (.tup []))) [some (.ref lp), some v, some d, none, none, some (.ref st.length), some here, none, none] s = some (.val (.bl (isU here && !isNil here)), s) :=
      w_and (w_p1 (w_v rfl) (op_tuple hs.py.ty)) fun _ => w_p2 (w_v rfl) (show _ = some (.val (.tup []), s) by simp [evW, evA, vD]) (ne_nil hs60.py)
    simp only [bindTg, List.set_cons_zero, List.set_cons_succ]
    rw [wp_b1, wp_if, cond, wp_some]
    simp only [trB]
    cases hb : (isU here && !isNil here) with
    | false =>
      simp only [wpS, wps, wp_some, settle_r, nxt, trB, br_t, br_f, isV, List.map_cons, List.map_nil, List.cons_append, List.nil_append, List.replicate, Nat.sub_self, Nat.reduceSub, List.getElem?_cons_zero, List.getElem?_cons_succ, List.set_cons_zero, List.set_cons_succ, permute, List.mapM_cons, List.mapM_nil, Option.pure_def, Option.bind_eq_bind, Option.bind_some, List.length_cons, List.length_nil, bindTg, List.zip_cons_cons, List.zip_nil_left, List.zip_nil_right, List.foldl_cons, List.foldl_nil, PySem.sizeLine_eq, Nat.reduceAdd, Nat.reduceLeDiff, Nat.zero_le, eq_self, true_and, opsI, o_eqS, if_true]
      exact ⟨ways, here, _, rfl, hwy, g, Ps, hh, wo, by simp only [List.length_cons] at wl; omega⟩
    | true =>
      obtain ⟨d0, dr, rfl⟩ := isU_nil hb
      obtain ⟨n', rfl, hl⟩ := hh.tupN
      have hlen := hl.len
      simp only [List.length_cons] at hlen
      have sl := line3
      simp only [wpS, wps, wp_some, settle_r, nxt, trB, br_t, br_f, isV, List.map_cons, List.map_nil, List.cons_append, List.nil_append, List.replicate, Nat.sub_self, Nat.reduceSub, List.getElem?_cons_zero, List.getElem?_cons_succ, List.set_cons_zero, List.set_cons_succ, permute, List.mapM_cons, List.mapM_nil, Option.pure_def, Option.bind_eq_bind, Option.bind_some, List.length_cons, List.length_nil, bindTg, List.zip_cons_cons, List.zip_nil_left, List.zip_nil_right, List.foldl_cons, List.foldl_nil, PySem.sizeLine_eq, Nat.reduceAdd, Nat.reduceLeDiff, Nat.zero_le, eq_self, true_and, opsI, o_eqS, if_true, wp_m1, rc_l hwy]
      refine (w_draw (k := k + 1) A Ps (many := ((dr.length + 1 : Nat) : Int)) (by omega) (by omega)).mono ?_
      rintro ⟨x, s1⟩ ⟨⟨i, rfl, hi⟩, g2, P2⟩
      have hwy1 := g2 _ _ (by omega) hwy
      have hsl : st.length < s1.length := (List.getElem?_eq_some_iff.mp hwy1).1
      have wl5 : ways.length ≤ 5 := by omega
      have ap : op2 .append (.val (.ref st.length)) (.val (.tup [.tup (d0 :: dr), .int (i : Nat)])) s1 = some (.val .non, s1.set st.length (.lst (ways ++ [.tup [.tup (d0 :: dr), .int (i : Nat)]]))) := by
        have : ways.length < sizeLine := by omega
        simp [op2, hwy1, this, Nx.settle]
      have hi2 : i < (d0 :: dr).length := by simp only [List.length_cons]; omega
      have hg : (d0 :: dr)[i]? = some (d0 :: dr)[i] := by simp [hi2]
      have hset : (s1.set st.length (.lst (ways ++ [.tup [.tup (d0 :: dr), .int (i : Nat)]])))[st.length]? = some (.lst (ways ++ [.tup [.tup (d0 :: dr), .int (i : Nat)]])) := by simp [hsl]
      generalize hz : s1.set st.length (.lst (ways ++ [.tup [.tup (d0 :: dr), .int (i : Nat)]])) = z at *
      have i1 : op2 .idx (.val (.ref st.length)) (.val (.int (-1))) z = some (.val (.tup [.tup (d0 :: dr), .int (i : Nat)]), z) := o_idxL hset (at_last _ _)
      have i2 : op2 .idx (.val (.tup (d0 :: dr))) (.val (.int (i : Nat))) z = some (.val (d0 :: dr)[i], z) := o_idx (at_nat hg)
      simp only [wpS, wps, wp_some, settle_r, nxt, trB, br_t, br_f, isV, List.map_cons, List.map_nil, List.cons_append, List.nil_append, List.replicate, Nat.sub_self, Nat.reduceSub, List.getElem?_cons_zero, List.getElem?_cons_succ, List.set_cons_zero, List.set_cons_succ, permute, List.mapM_cons, List.mapM_nil, Option.pure_def, Option.bind_eq_bind, Option.bind_some, List.length_cons, List.length_nil, bindTg, List.zip_cons_cons, List.zip_nil_left, List.zip_nil_right, List.foldl_cons, List.foldl_nil, PySem.sizeLine_eq, Nat.reduceAdd, Nat.reduceLeDiff, Nat.zero_le, eq_self, true_and, opsI, o_eqS, if_true, ap, i1, i2, opsX]
      have gz : Gw lp st z := fun l o hne e => by
        have hl : l < st.length := (List.getElem?_eq_some_iff.mp e).1
        rw [← hz, List.getElem?_set_ne (by omega)]
        exact g2 l o hne (g l o hne e)
      have pz : Pot lp z := by
        obtain ⟨a, b, e, r⟩ := P2
        exact ⟨a, b, by rw [← hz, List.getElem?_set_ne (by omega)]; exact e, r⟩
      refine ⟨_, _, _, rfl, hset, gz, pz, (hl.mem _ (List.getElem_mem hi2)).ups (by omega) (Nat.le_refl _), ?_, ?_⟩
      · intro e he
        rcases List.mem_append.mp he with q | q
        · exact wo e q
        · rw [List.mem_singleton] at q
          exact ⟨_, i, q, hl.ups (by omega) (Nat.le_refl _)⟩
      · simp only [List.length_append, List.length_cons, List.length_nil] at wl ⊢; omega
  · rintro ρ s ⟨ways, here, o2, rfl, hwy, g, Ps, hh, wo, wl⟩
    exact ⟨ways, here, o2, s, rfl, hwy, g, Ps, hh, wo, wl⟩
  · refine ⟨[], v, none, rfl, g1 _ _ (by omega) (at_snoc _ _), (Ex.snoc _ _).gw.trans g1, P1, hv, (fun _ h => nomatch h), ?_⟩
    rw [rng_len]
    simp only [List.length_nil]
    omega
end
end Px

end

section
set_option maxHeartbeats 2000000
/-! Px31: a value bent by one thing, to the end. -/
namespace Px
open Nx
open PySem (PyData sizeLine)
def oddsD (r : Nat) (here : D) : List D := [.non, .int 0, .int 1, .int 7, .int (-1), .bl true, .str "0", .tup [], .tup [.int 0], .tup [.int 0, .int 1], .tup [.int 0, .tup []], .ref r, .tup [here], .int 999999999999999999999999999999, .int 1000000000000000000000000000000,
  .tup (List.replicate 100 [D.int 0]).flatten, .tup (List.replicate 101 [D.int 1]).flatten, .tup [.int 2]]
theorem add_tup {st : Sto} {ds es : List D} (h : ds.length + es.length ≤ sizeLine) : op2 .add (.val (.tup ds)) (.val (.tup es)) st = some (.val (.tup (ds ++ es)), st) := by
  simp [op2, h, vD]
theorem sl_ft {st : Sto} {ds : List D} {i : Int} : op3 (.slice false true) (.val (.tup ds)) (.val .non) (.val (.int i)) st = some (.val (.tup (cutD ds none (some i))), st) := rfl
theorem sl_tf {st : Sto} {ds : List D} {i : Int} : op3 (.slice true false) (.val (.tup ds)) (.val (.int i)) (.val .non) st = some (.val (.tup (cutD ds (some i) none)), st) := rfl
section
variable {lp n w : Nat} {st : Sto} {here : D}
theorem pv_i (n : Nat) (st : Sto) (i : Int) (h : i.natAbs < 10 ^ 38) (ds : List D) (w : Nat) (g : PvL lp n st ds w) : PvL lp n st (.int i :: ds) (131 + w) := ⟨130, w, by omega, .int h, g⟩
theorem ok0 : PyData.strOk "0" = true ∧ ((("0" : PySem.Str).cps.toList.all fun c => decide (c < 16 ^ 8)) = true) ∧ ("0" : PySem.Str).cps.size = 1 := by
  refine ⟨?_, ?_, ?_⟩ <;> decide +kernel
theorem pv_odds {r : Nat} (hr : st[r]? = some (.lst [here])) (ne : r ≠ lp) (hh : Pv lp n w st here) : ∀ d ∈ oddsD r here, Pv lp (n + 2) (2 * w + 14000) st d := by
  have b1 : PvL lp n st [.int 0] 131 := pv_i n st 0 (by decide) [] 0 trivial
  have b2 : PvL lp n st [.int 1] 131 := pv_i n st 1 (by decide) [] 0 trivial
  intro d hd
  simp only [oddsD, List.mem_cons, List.not_mem_nil, or_false] at hd
  rcases hd with rfl | rfl | rfl | rfl | rfl | rfl | rfl | rfl | rfl | rfl | rfl | rfl | rfl | rfl | rfl | rfl | rfl | rfl
  · exact Pv.non.ups (Nat.le_refl _) (by omega)
  · exact (Pv.int (by decide)).ups (Nat.le_refl _) (by omega)
  · exact (Pv.int (by decide)).ups (Nat.le_refl _) (by omega)
  · exact (Pv.int (by decide)).ups (Nat.le_refl _) (by omega)
  · exact (Pv.int (by decide)).ups (Nat.le_refl _) (by omega)
  · exact Pv.bl.ups (Nat.le_refl _) (by omega)
  · exact (Pv.str (s := "0") ok0.1 ok0.2.1).ups (Nat.le_refl _) (by have := ok0.2.2; omega)
  · exact (PvL.tup (ds := []) (w := 0) (n := n) trivial).ups (by omega) (by omega)
  · exact b1.tup.ups (by omega) (by omega)
  · exact (pv_i n st 0 (by decide) _ _ b2).tup.ups (by omega) (by omega)
  · have e : Pv lp (n + 1) 0 st (.tup []) := PvL.tup (ds := []) (w := 0) (n := n) trivial
    exact (pv_i (n + 1) st 0 (by decide) _ _ (PvL.cons e (ds := []) (z := 0) trivial)).tup.ups (by omega) (by omega)
  · exact (PvL.ref hr ne (PvL.cons hh (ds := []) (z := 0) trivial)).ups (by omega) (by omega)
  · exact (PvL.cons hh (ds := []) (z := 0) trivial).tup.ups (by omega) (by omega)
  · exact (Pv.int (by decide)).ups (Nat.le_refl _) (by omega)
  · exact (Pv.int (by decide)).ups (Nat.le_refl _) (by omega)
  · exact (b1.rep 100).tup.ups (by omega) (by omega)
  · exact (b2.rep 101).tup.ups (by omega) (by omega)
  · exact (pv_i n st 2 (by decide) [] 0 trivial).tup.ups (by omega) (by omega)
end
section
variable {tab : Nat → Option Fn} {k : Nat} {lp id ip ib : Nat}
abbrev oddsC : C := .lst [(.k .non), (.k (.int 0)), (.k (.int 1)), (.k (.int 7)), (.p1 .neg (.k (.int 1))), (.k (.bl true)), (.k (.str "0")), (.tup []), (.tup [(.k (.int 0))]), (.tup [(.k (.int 0)), (.k (.int 1))]), (.tup [(.k (.int 0)), (.tup [])]), (.lst [(.v 6)]), (.tup [(.v 6)]), (.p2 .sub (.p2 .pow (.k (.int 10)) (.k (.int 30))) (.k (.int 1))), (.p2 .pow (.k (.int 10)) (.k (.int 30))), (.p2 .mul (.tup [(.k (.int 0))]) (.k (.int 100))), (.p2 .mul (.tup [(.k (.int 1))]) (.k (.int 101))), (.tup [(.k (.int 2))])]
abbrev lateC (ip : Nat) : C := .call ip [(.v 0), (.p2 .add (.v 3) (.ite (.p1 (.isT "tuple") (.v 6)) (.lst [(.p1 .list (.v 6)), (.p3 (.slice false true) (.v 6) (.k .non) (.p1 .neg (.k (.int 1)))), (.p2 .add (.v 6) (.p3 (.slice true false) (.v 6) (.p1 .neg (.k (.int 1))) (.k .non))), (.p1 .rev (.v 6))]) (.lst [])))] [0, 1]
abbrev bent2 : List Nx.S := [.asg 4 (.p2 .add (.p2 .add (.p3 (.slice false true) (.v 7) (.k .non) (.v 8)) (.tup [(.v 4)])) (.p3 (.slice true false) (.v 7) (.p2 .add (.v 8) (.k (.int 1))) (.k .non)))]
theorem bent_eq : B_law_bent id ip = [.asgP [5, 6] [(.lst []), (.v 1)], .for_ 3 [(.call id [(.v 0), (.k (.int 6))] [0, 1])] (.n 2) (bent1 id), .asg 3 oddsC, .asg 4 (lateC ip), .for_ 0 [(.p1 .rev (.v 5))] (.t [7, 8]) bent2, .ret (.v 4)] := rfl
theorem add_new {st : Sto} {l : Nat} {ds es : List D} (hl : st[l]? = some (.lst ds)) (h : ds.length + es.length ≤ sizeLine) : op2 .add (.val (.ref l)) (.new es) st = some (.new (ds ++ es), st) := by
  simp [op2, lstOf, hl, h]
theorem bent_odds {T : Calls} {st : Sto} {ρ0 v here w5 : D} {o2 : Option D} :
    Wp (exS T (.asg 3 oddsC) [some ρ0, some v, o2, none, none, some w5, some here, none, none] st) fun r => r = (.nx, [some ρ0, some v, o2, some (.ref (st.length + 1)), none, some w5, some here, none, none], (st ++ [.lst [here]]) ++ [.lst (oddsD st.length here)]) := by
  have sb : ∀ s, op2 .sub (.val (.int 1000000000000000000000000000000)) (.val (.int 1)) s = some (.val (.int 999999999999999999999999999999), s) := fun _ => rfl
  simp only [wpS, wps, wp_some, settle_r, List.getElem?_cons_zero, List.getElem?_cons_succ, p10_30, mul100, mul101, sb, List.length_cons, List.length_nil, PySem.sizeLine_eq, Nat.reduceAdd, Nat.reduceLeDiff, Nat.zero_le, true_and, opsI]
  simp only [List.set_cons_succ, List.set_cons_zero, List.length_append, List.length_cons, List.length_nil, Nat.reduceAdd]
  rfl
theorem bent_late (A : PickAt tab id ip) {st : Sto} {v here : D} {o2 : Option D} {n w wy od : Nat} (P : Pot lp st) (hw : w ≤ 10000) (hn : n ≤ 40) {r : Nat} (ho : st[od]? = some (.lst (oddsD r here))) (hr : st[r]? = some (.lst [here])) (ne : r ≠ lp) (hh : Pv lp n w st here) :
    Wp (exS (evF tab (k + 2)) (.asg 4 (lateC ip)) [some (.ref lp), some v, o2, some (.ref od), none, some (.ref wy), some here, none, none] st)
      fun r => ∃ (late : D) (s1 : Sto), r = (.nx, [some (.ref lp), some v, o2, some (.ref od), some late, some (.ref wy), some here, none, none], s1) ∧ Gw lp st s1 ∧ Pot lp s1 ∧ Pv lp (n + 2) (2 * w + 14000) s1 late := by
  have hlp : lp < st.length := by obtain ⟨a, b, e, _⟩ := P; exact (List.getElem?_eq_some_iff.mp e).1
  have pick : ∀ (st2 : Sto) (es : List D), Ex st st2 → (∀ d ∈ es, Pv lp (n + 2) (2 * w + 14000) st2 d) → es.length ≤ 10 →
      Wp (evF tab (k + 2) ip [.ref lp, .ref st2.length] (st2 ++ [.lst (oddsD r here ++ es)])) fun x => Gw lp st x.2 ∧ Pot lp x.2 ∧ Pv lp (n + 2) (2 * w + 14000) x.2 x.1 := by
    intro st2 es x hes hel
    have hl2 : lp < st2.length := Nat.lt_of_lt_of_le hlp x.len
    have ex := x.trans (Ex.snoc st2 (.lst (oddsD r here ++ es)))
    refine (w_pick (k := k) A (P.ex ex) (at_snoc st2 _) (by omega) (by simp [oddsD]) (by simp only [List.length_append, oddsD, List.length_cons, List.length_nil]; omega)).mono ?_
    rintro ⟨d, s1⟩ ⟨m, g1, P1⟩
    refine ⟨ex.gw.trans g1, P1, ?_⟩
    rcases List.mem_append.mp m with q | q
    · exact (pv_odds hr ne hh d q).gw (ex.gw.trans g1)
    · exact (hes d q).gw ((Ex.snoc _ _).gw.trans g1)
  have ti : ∀ s, Ex st s → op1 (.isT "tuple") (.val here) s = some (.val (.bl (isU here)), s) := fun s x => op_tuple (hh.gw x.gw).py.ty
  have l18 : (oddsD r here).length = 18 := rfl
  have line := line3
  cases hu : isU here with
  | false =>
    simp only [wpS, wps, wp_some, settle_r, nxt, trB, br_t, br_f, isV, List.map_cons, List.map_nil, List.cons_append, List.nil_append, List.replicate, Nat.sub_self, Nat.reduceSub, List.getElem?_cons_zero, List.getElem?_cons_succ, List.set_cons_zero, List.set_cons_succ, permute, List.mapM_cons, List.mapM_nil, Option.pure_def, Option.bind_eq_bind, Option.bind_some, List.length_cons, List.length_nil, bindTg, List.zip_cons_cons, List.zip_nil_left, List.zip_nil_right, List.foldl_cons, List.foldl_nil, PySem.sizeLine_eq, Nat.reduceAdd, Nat.reduceLeDiff, Nat.zero_le, eq_self, true_and, opsI, o_eqS, if_true, ti st (Ex.refl _), hu, add_new ho (es := []) (by rw [l18]; simp only [List.length_nil]; omega)]
    refine (pick st [] (Ex.refl _) (fun _ h => nomatch h) (by simp)).mono ?_
    rintro ⟨d, s1⟩ ⟨g, P1, hv⟩
    exact ⟨d, s1, rfl, g, P1, hv⟩
  | true =>
    cases here with
    | tup ds =>
      obtain ⟨n', rfl, hl⟩ := hh.tupN
      have hlen := hl.len
      have cl := cut_len (ds := ds) (some (-1)) none
      have ho2 : ∀ o, (st ++ [o])[od]? = some (.lst (oddsD r (.tup ds))) := fun o => Ex.snoc st o od _ ho
      have ad : ∀ s, op2 .add (.val (.tup ds)) (.val (.tup (cutD ds (some (-1)) none))) s = some (.val (.tup (ds ++ cutD ds (some (-1)) none)), s) := fun s => add_tup (by omega)
      have al : ∀ es : List D, es.length ≤ 10 → op2 .add (.val (.ref od)) (.new es) (st ++ [.lst ds]) = some (.new (oddsD r (.tup ds) ++ es), st ++ [.lst ds]) := fun es h => add_new (ho2 _) (by rw [l18]; omega)
      simp only [wpS, wps, wp_some, settle_r, nxt, trB, br_t, br_f, isV, List.map_cons, List.map_nil, List.cons_append, List.nil_append, List.replicate, Nat.sub_self, Nat.reduceSub, List.getElem?_cons_zero, List.getElem?_cons_succ, List.set_cons_zero, List.set_cons_succ, permute, List.mapM_cons, List.mapM_nil, Option.pure_def, Option.bind_eq_bind, Option.bind_some, List.length_cons, List.length_nil, bindTg, List.zip_cons_cons, List.zip_nil_left, List.zip_nil_right, List.foldl_cons, List.foldl_nil, PySem.sizeLine_eq, Nat.reduceAdd, Nat.reduceLeDiff, Nat.zero_le, eq_self, true_and, opsI, o_eqS, if_true, ti st (Ex.refl _), hu, sl_ft, sl_tf, ad]
      rw [al _ (by simp), wp_some]
      simp only [wpS, wps, wp_some, settle_r, nxt, trB, br_t, br_f, isV, List.map_cons, List.map_nil, List.cons_append, List.nil_append, List.replicate, Nat.sub_self, Nat.reduceSub, List.getElem?_cons_zero, List.getElem?_cons_succ, List.set_cons_zero, List.set_cons_succ, permute, List.mapM_cons, List.mapM_nil, Option.pure_def, Option.bind_eq_bind, Option.bind_some, List.length_cons, List.length_nil, bindTg, List.zip_cons_cons, List.zip_nil_left, List.zip_nil_right, List.foldl_cons, List.foldl_nil, PySem.sizeLine_eq, Nat.reduceAdd, Nat.reduceLeDiff, Nat.zero_le, eq_self, true_and, opsI, o_eqS, if_true]
      have hl1 := hl.gw (Ex.snoc st (.lst ds)).gw
      refine (pick (st ++ [.lst ds]) [.ref st.length, .tup (cutD ds none (some (-1))), .tup (ds ++ cutD ds (some (-1)) none), .tup ds.reverse] (Ex.snoc _ _) ?_ (by simp)).mono ?_
      · intro d hd
        simp only [List.mem_cons, List.not_mem_nil, or_false] at hd
        rcases hd with rfl | rfl | rfl | rfl
        · exact (PvL.ref (at_snoc st _) (by omega) hl1).ups (by omega) (by omega)
        · exact (cut_pv hl1 _ _).tup.ups (by omega) (by omega)
        · exact (hl1.app (cut_pv hl1 _ _)).tup.ups (by omega) (by omega)
        · exact hl1.rev.tup.ups (by omega) (by omega)
      · rintro ⟨d, s1⟩ ⟨g, P1, hv⟩
        exact ⟨d, s1, rfl, g, P1, hv⟩
    | _ => cases hu
theorem bent_back {T : Calls} {st : Sto} {ρ0 v v3 v5 here late : D} {o2 : Option D} {n w W N : Nat} {ways : List D} (hw : w ≤ 10000) (hW : W ≤ 40000) (hn : n ≤ N) (hr : op1 .rev (.val v5) st = some (.new ways, st))
    (hl : Pv lp N W st late) (wo : ∀ e ∈ ways, WayOk lp n w st e) (h5 : ways.length ≤ 5) :
    Wp (exS T (.for_ 0 [(.p1 .rev (.v 5))] (.t [7, 8]) bent2) [some ρ0, some v, o2, some v3, some late, some v5, some here, none, none] st)
      fun r => ∃ (l2 : D) (o7 o8 : Option D), r = (.nx, [some ρ0, some v, o2, some v3, some l2, some v5, some here, o7, o8], st) ∧ Pv lp (N + 5) (W + 5 * (2 * w + 1)) st l2 := by
  rw [wp_for]
  simp only [wpS, wps, wp_some, settle_r, nxt, trB, br_t, br_f, isV, List.map_cons, List.map_nil, List.cons_append, List.nil_append, List.replicate, Nat.sub_self, Nat.reduceSub, List.getElem?_cons_zero, List.getElem?_cons_succ, List.set_cons_zero, List.set_cons_succ, permute, List.mapM_cons, List.mapM_nil, Option.pure_def, Option.bind_eq_bind, Option.bind_some, List.length_cons, List.length_nil, bindTg, List.zip_cons_cons, List.zip_nil_left, List.zip_nil_right, List.foldl_cons, List.foldl_nil, PySem.sizeLine_eq, Nat.reduceAdd, Nat.reduceLeDiff, Nat.zero_le, eq_self, true_and, opsI, o_eqS, if_true, hr, walkOf]
  refine wp_forLoop (fun r ρ s => s = st ∧ ∃ (l2 : D) (o7 o8 : Option D) (j : Nat), ρ = [some ρ0, some v, o2, some v3, some l2, some v5, some here, o7, o8] ∧ Pv lp (N + j) (W + j * (2 * w + 1)) st l2 ∧ (∀ e ∈ r, WayOk lp n w st e) ∧ j + r.length ≤ 5) (fun _ _ _ _ => rfl) ?_ ?_ _ _ _ ?_
  · rintro d r ρ s ⟨rfl, l2, o7, o8, j, rfl, h2, wo, hj⟩
    obtain ⟨ds, i, rfl, hd⟩ := wo d (by simp)
    simp only [List.length_cons] at hj
    have c1 := cut_len (ds := ds) none (some (i : Int))
    have c2 := cut_len (ds := ds) (some ((i : Int) + 1)) none
    have hlen := hd.len
    have line := line3
    have a1 : op2 .add (.val (.tup (cutD ds none (some (i : Int))))) (.val (.tup [l2])) s = some (.val (.tup (cutD ds none (some (i : Int)) ++ [l2])), s) := add_tup (by simp only [List.length_cons, List.length_nil]; omega)
    have a2 : op2 .add (.val (.tup (cutD ds none (some (i : Int)) ++ [l2]))) (.val (.tup (cutD ds (some ((i : Int) + 1)) none))) s = some (.val (.tup (cutD ds none (some (i : Int)) ++ [l2] ++ cutD ds (some ((i : Int) + 1)) none)), s) := add_tup (by simp only [List.length_append, List.length_cons, List.length_nil]; omega)
    simp only [wpS, wps, wp_some, settle_r, nxt, trB, br_t, br_f, isV, List.map_cons, List.map_nil, List.cons_append, List.nil_append, List.replicate, Nat.sub_self, Nat.reduceSub, List.getElem?_cons_zero, List.getElem?_cons_succ, List.set_cons_zero, List.set_cons_succ, permute, List.mapM_cons, List.mapM_nil, Option.pure_def, Option.bind_eq_bind, Option.bind_some, List.length_cons, List.length_nil, bindTg, List.zip_cons_cons, List.zip_nil_left, List.zip_nil_right, List.foldl_cons, List.foldl_nil, PySem.sizeLine_eq, Nat.reduceAdd, Nat.reduceLeDiff, Nat.zero_le, eq_self, true_and, opsI, o_eqS, if_true, sl_ft, sl_tf, a1, a2]
    have hd2 := hd.ups (m := N + j) (z := w) (by omega) (Nat.le_refl _)
    refine ⟨_, _, _, j + 1, rfl, ?_, fun e he => wo e (by simp [he]), by omega⟩
    have t := (((cut_pv hd2 none (some (i : Int))).app (PvL.cons h2 (ds := []) (z := 0) trivial)).app (cut_pv hd2 (some ((i : Int) + 1)) none)).tup
    exact t.ups (by omega) (by rw [Nat.add_mul]; omega)
  · rintro ρ s ⟨rfl, l2, o7, o8, j, rfl, h2, wo, hj⟩
    simp only [List.length_nil] at hj
    exact ⟨l2, o7, o8, rfl, h2.ups (by omega) (by have : j * (2 * w + 1) ≤ 5 * (2 * w + 1) := Nat.mul_le_mul_right _ (by omega)
                                                  omega)⟩
  · exact ⟨rfl, late, none, none, 0, rfl, by simpa using hl, wo, by omega⟩
theorem w_bent (A : PickAt tab id ip) (h : tab ib = some ⟨2, 9, B_law_bent id ip⟩) {st : Sto} {v : D} {n w : Nat} (P : Pot lp st) (hv : Pv lp n w st v) (hn : n ≤ 40) (hw : w ≤ 10000) :
    Wp (evF tab (k + 3) ib [.ref lp, v] st) fun x => Pv lp (n + 7) (12 * w + 14005) x.2 x.1 ∧ Gw lp st x.2 ∧ Pot lp x.2 := by
  have hlp : lp < st.length := by obtain ⟨a, b, e, _⟩ := P; exact (List.getElem?_eq_some_iff.mp e).1
  rw [wp_fn h rfl, bent_eq]
  refine wp_step (P := fun r => r = (.nx, [some (.ref lp), some v, none, none, none, some (.ref st.length), some v, none, none], st ++ [.lst []])) ?_ ?_
  · simp only [wpS, wps, wp_some, settle_r, nxt, trB, br_t, br_f, isV, List.map_cons, List.map_nil, List.cons_append, List.nil_append, List.replicate, Nat.sub_self, Nat.reduceSub, List.getElem?_cons_zero, List.getElem?_cons_succ, List.set_cons_zero, List.set_cons_succ, permute, List.mapM_cons, List.mapM_nil, Option.pure_def, Option.bind_eq_bind, Option.bind_some, List.length_cons, List.length_nil, bindTg, List.zip_cons_cons, List.zip_nil_left, List.zip_nil_right, List.foldl_cons, List.foldl_nil, PySem.sizeLine_eq, Nat.reduceAdd, Nat.reduceLeDiff, Nat.zero_le, eq_self, true_and, opsI, o_eqS, if_true]
  rintro _ rfl
  simp only [nxt]
  refine wp_step (bent_way (k := k) A P hv hn hw) ?_
  rintro _ ⟨ways, here, o2, s1, rfl, hwy, g1, P1, hh, wo, wl⟩
  simp only [nxt]
  refine wp_step bent_odds ?_
  rintro _ rfl
  simp only [nxt]
  have hsl : st.length < s1.length := (List.getElem?_eq_some_iff.mp hwy).1
  have x2 : Ex s1 (s1 ++ [.lst [here]] ++ [.lst (oddsD s1.length here)]) := (Ex.snoc _ _).trans (Ex.snoc _ _)
  have ho : (s1 ++ [.lst [here]] ++ [.lst (oddsD s1.length here)])[s1.length + 1]? = some (.lst (oddsD s1.length here)) := by
    have := at_snoc (s1 ++ [.lst [here]]) (.lst (oddsD s1.length here))
    simp only [List.length_append, List.length_cons, List.length_nil] at this
    exact this
  have hr : (s1 ++ [.lst [here]] ++ [.lst (oddsD s1.length here)])[s1.length]? = some (.lst [here]) := Ex.snoc _ _ _ _ (at_snoc s1 _)
  refine wp_step (bent_late (k := k) (wy := st.length) A (P1.ex x2) hw hn ho hr (by omega) (hh.gw (g1.trans x2.gw))) ?_
  rintro _ ⟨late, s3, rfl, g3, P3, hl⟩
  simp only [nxt]
  have hwy3 := g3 _ _ (by omega) (x2 _ _ hwy)
  have rv : op1 .rev (.val (.ref st.length)) s3 = some (.new ways.reverse, s3) := by simp [op1, listOf, hwy3]
  have g := (g1.trans x2.gw).trans g3
  refine wp_step (bent_back (n := n) (w := w) hw (show 2 * w + 14000 ≤ 40000 by omega) (by omega) rv hl (fun e he => ?_) (by simpa using wl)) ?_
  · obtain ⟨ds, i, q1, q2⟩ := wo e (by simpa using he)
    exact ⟨ds, i, q1, q2.gw g⟩
  · rintro _ ⟨l2, o7, o8, rfl, hl2⟩
    simp only [wpS, wps, wp_some, settle_r, nxt, trB, br_t, br_f, isV, List.map_cons, List.map_nil, List.cons_append, List.nil_append, List.replicate, Nat.sub_self, Nat.reduceSub, List.getElem?_cons_zero, List.getElem?_cons_succ, List.set_cons_zero, List.set_cons_succ, permute, List.mapM_cons, List.mapM_nil, Option.pure_def, Option.bind_eq_bind, Option.bind_some, List.length_cons, List.length_nil, bindTg, List.zip_cons_cons, List.zip_nil_left, List.zip_nil_right, List.foldl_cons, List.foldl_nil, PySem.sizeLine_eq, Nat.reduceAdd, Nat.reduceLeDiff, Nat.zero_le, eq_self, true_and, opsI, o_eqS, if_true]
    exact ⟨hl2.ups (by omega) (by omega), g, P3⟩
end
end Px

end

section
set_option maxHeartbeats 2000000
/-! Px32: places and timelines as values that stay; paths; letters. -/
namespace Px
open Nx
open PySem (PyData sizeLine)
/-- a comprehension whose made things may lie in the store -/
theorem wp_compG {F : D → Sto → Option (Option D × Sto)} {g : Sto → Bool} {P : Sto → D → Prop} {J : Sto → Prop} {R : Sto → Sto → Prop} (hg : ∀ s, J s → g s = true) (rr : ∀ s, R s s) (rt : ∀ a b c, R a b → R b c → R a c)
    (mono : ∀ s s' e, R s s' → P s e → P s' e)
    : ∀ (items : List D) (st : Sto), (∀ d ∈ items, ∀ s, J s → Wp (F d s) fun y => ∃ e, y.1 = some e ∧ P y.2 e ∧ J y.2 ∧ R s y.2) → items.length ≤ sizeLine → J st →
      Wp (compLoop F g items st) fun y => y.1.length = items.length ∧ (∀ e ∈ y.1, P y.2 e) ∧ J y.2 ∧ R st y.2
  | [], st, _, _, h => by
    rw [compLoop, if_pos (hg _ h)]
    exact wp_some.mpr ⟨rfl, (fun _ h => nomatch h), h, rr _⟩
  | d :: r, st, step, hl, h => by
    obtain ⟨⟨o, s1⟩, e, x, hx, px, j1, r1⟩ := step d (by simp) st h
    simp only at hx
    subst hx
    obtain ⟨⟨es, s2⟩, e2, l2, p2, j2, r2⟩ := wp_compG hg rr rt mono r s1 (fun d hd => step d (by simp [hd])) (by simp at hl; omega) j1
    have hl2 : es.length < sizeLine := by simp only at l2; simp at hl; omega
    rw [compLoop, if_pos (hg _ h), e]
    simp only
    rw [e2]
    simp only [hl2, if_true]
    exact wp_some.mpr ⟨by simp only at l2 ⊢; simp [l2], fun e he => by
      rcases List.mem_cons.mp he with q | q
      · rw [q]; exact mono _ _ _ r2 px
      · exact p2 e q, j2, rt _ _ _ r1 r2⟩
section
variable {lp : Nat} {st : Sto} {cs : List Nat}
theorem pv_bits (n : Nat) : ∀ (bs : List Bool), PvL lp n st (bs.map bitD) (131 * bs.length)
  | [] => trivial
  | b :: r => ⟨130, 131 * r.length, by simp only [List.length_cons]; omega, .int (by cases b <;> decide), pv_bits n r⟩
theorem pv_head {t : TL} {a : AD} (w : Wf cs t) (h : Ok t a) (ht : isLt t = false) : Pv lp 1 700 st (headD a) := by
  cases a with
  | nil => exact Pv.non.ups (Nat.le_refl _) (by omega)
  | num i r =>
    refine (Pv.nat (i := i) ?_).ups (Nat.le_refl _) (by omega)
    cases t with
    | row l =>
      obtain ⟨u, h1, _⟩ := h
      have := (List.getElem?_eq_some_iff.mp h1).1
      have := w.2.1
      omega
    | on u => have := h.1; omega
    | fr u => have := h.1; omega
    | _ => exact h.elim
  | node bs r =>
    have h5 : bs.length ≤ 5 := by cases t <;> first | exact h.1 | exact h.elim
    exact (pv_bits 0 bs).tup.ups (Nat.le_refl _) (by omega)
theorem ok_next {t : TL} {a : AD} (w : Wf cs t) (h : Ok t a) (ht : isLt t = false) : ∃ u, Wf cs u ∧ Ok u (restA a) ∧ dep u < dep t := by
  obtain ⟨u, a1, a2, a3, _⟩ := ok_step h ht
  obtain ⟨s1, s2⟩ := ok_stepOk w h ht
  obtain ⟨u', hi, _, wu⟩ := inner_ok w s1
  have e : u' = u := by rw [hi, a1] at s2; simpa using s2
  subst e
  exact ⟨u', wu, a2, a3⟩
theorem pv_encA : ∀ (n : Nat) (t : TL) (a : AD), dep t ≤ n → Wf cs t → Ok t a → Pv lp (n + 2) (702 * n) st (encA a)
  | 0, t, _, hd, _, _ => by have := dep_pos t; omega
  | n + 1, t, a, hd, w, h => by
    cases hlt : isLt t with
    | true =>
      cases t with
      | lt c =>
        cases a <;> simp only [Ok] at h
        exact (PvL.tup (ds := []) (w := 0) (n := n) trivial).ups (by omega) (by omega)
      | _ => cases hlt
    | false =>
      obtain ⟨u, wu, hu, hdu⟩ := ok_next w h hlt
      rw [enc_pair h hlt]
      have i1 := pv_encA n u (restA a) (by omega) wu hu
      have i2 := (pv_head (lp := lp) (st := st) w h hlt).ups (m := n + 2) (z := 700) (by omega) (Nat.le_refl _)
      exact (PvL.cons i2 (PvL.cons i1 (ds := []) (z := 0) trivial)).tup.ups (by omega) (by omega)
/-- letters that can be shown -/
def Lets (cs : List Nat) : Prop := ∀ c ∈ cs, PyData.strOk ⟨#[c]⟩ = true ∧ c < 16 ^ 8
theorem okw : (PyData.strOk "row" = true ∧ PyData.strOk "mix" = true ∧ PyData.strOk "on" = true ∧ PyData.strOk "from" = true) ∧ (((("row" : PySem.Str).cps.toList.all fun c => decide (c < 16 ^ 8)) = true) ∧ ((("mix" : PySem.Str).cps.toList.all fun c => decide (c < 16 ^ 8)) = true) ∧ ((("on" : PySem.Str).cps.toList.all fun c => decide (c < 16 ^ 8)) = true) ∧ ((("from" : PySem.Str).cps.toList.all fun c => decide (c < 16 ^ 8)) = true)) ∧
    (("row" : PySem.Str).cps.size ≤ 4 ∧ ("mix" : PySem.Str).cps.size ≤ 4 ∧ ("on" : PySem.Str).cps.size ≤ 4 ∧ ("from" : PySem.Str).cps.size ≤ 4) := by
  refine ⟨⟨?_, ?_, ?_, ?_⟩, ⟨?_, ?_, ?_, ?_⟩, ⟨?_, ?_, ?_, ?_⟩⟩ <;> decide +kernel
theorem pv_pair {n w : Nat} {s : PySem.Str} {d : D} (h1 : PyData.strOk s = true) (h2 : (s.cps.toList.all fun c => decide (c < 16 ^ 8)) = true) (h3 : s.cps.size ≤ 4) (h : Pv lp n w st d) : Pv lp (n + 1) (w + 6) st (.tup [.str s, d]) :=
  (PvL.cons ((Pv.str h1 h2).ups (n := n) (Nat.le_refl _) h3) (PvL.cons h (ds := []) (z := 0) trivial)).tup.ups (Nat.le_refl _) (by omega)
mutual
theorem pv_enc (L : Lets cs) : ∀ (t : TL), Wf cs t → Pv lp (2 * dep t) (20 * size t - 10) st (enc t)
  | .lt c, w => by
    refine (Pv.str (L c w).1 ?_).ups (Nat.zero_le _) ?_
    · simpa using (L c w).2
    · simp [size]
  | .row l, w => by
    have h := pv_encs L l w.2.2.2
    have h := pv_pair okw.1.1 okw.2.1.1 okw.2.2.1 h.tup
    have hl := w.1
    have hs := len_size l (wfL_mem w.2.2.2)
    exact h.ups (by simp only [dep]; omega) (by simp only [size]; omega)
  | .mix l, w => by
    have h := pv_encs L l w.2.2
    have h := pv_pair okw.1.2.1 okw.2.1.2.1 okw.2.2.2.1 h.tup
    have hs := len_size l (wfL_mem w.2.2)
    exact h.ups (by simp only [dep]; omega) (by simp only [size]; omega)
  | .on t, w => by
    have h := pv_enc L t w
    have h := pv_pair okw.1.2.2.1 okw.2.1.2.2.1 okw.2.2.2.2.1 h
    exact h.ups (by simp only [dep]; omega) (by simp only [size]; omega)
  | .fr t, w => by
    have h := pv_enc L t w
    have h := pv_pair okw.1.2.2.2 okw.2.1.2.2.2 okw.2.2.2.2.2 h
    exact h.ups (by simp only [dep]; omega) (by simp only [size]; omega)
theorem pv_encs (L : Lets cs) : ∀ (l : List TL), WfL cs l → PvL lp (2 * depL l) st (encL l) (20 * sizeL l - 9 * l.length)
  | [], _ => trivial
  | t :: r, w => by
    have a := pv_enc L t w.1
    have b := pv_encs L r w.2
    have s := size_pos t w.1
    have hs := len_size r (wfL_mem w.2)
    refine ⟨20 * size t - 10, 20 * sizeL r - 9 * r.length, by simp only [sizeL, List.length_cons]; omega, a.ups (by simp only [depL]; omega) (Nat.le_refl _), b.ups (by simp only [depL]; omega) (Nat.le_refl _)⟩
end
end
end Px

end

section
set_option maxHeartbeats 2000000
/-! Px33: paths of places; letters by any fuel; texts of answers. -/
namespace Px
open Nx
open PySem (PyData sizeLine)
section
variable {st : Sto} {cs : List Nat}
theorem eqv_place : ∀ (a b : AD), PyData.eqv (pyA a) (pyA b) = decide (a = b)
  | .nil, .nil => rfl
  | .nil, .num j s => rfl
  | .nil, .node bs s => rfl
  | .num i r, .nil => rfl
  | .node as r, .nil => rfl
  | .num i r, .num j s => by
    have ih := eqv_place r s
    simp only [pyA, PyData.eqv, PyData.eqvAll, ih, Bool.and_true]
    have e : ((i : Int) == (j : Int)) = decide (i = j) := by rw [Bool.eq_iff_iff]; simp; omega
    rw [e, ← Bool.decide_and]
    exact decide_eq_decide.mpr (by simp)
  | .node as r, .node bs s => by
    have ih := eqv_place r s
    simp only [pyA, PyData.eqv, PyData.eqvAll, ih, Bool.and_true, eqv_bits]
    have e : (as == bs) = decide (as = bs) := by rw [Bool.eq_iff_iff]; simp
    rw [e, ← Bool.decide_and]
    exact decide_eq_decide.mpr (by simp)
  | .num i r, .node bs s => by simp [pyA, PyData.eqv, PyData.eqvAll]
  | .node as r, .num j s => by simp [pyA, PyData.eqv, PyData.eqvAll]
theorem ne_place {a b : AD} (ha : adLen a < 50) (hb : adLen b < 50) : op2 .ne (.val (encA a)) (.val (encA b)) st = some (.val (.bl (!decide (a = b))), st) := by
  refine ne_of_eq ?_
  have e1 := py_encA st a 60 (by omega)
  have e2 := py_encA st b 60 (by omega)
  have q := eqv_place a b
  cases a <;> cases b <;> simp only [encA] at e1 e2 ⊢ <;> simp only [op2, eqD, toPyW, e1, e2, q, vB, vD]
theorem o_eqB (a b : Bool) : op2 .eq (.val (.bl a)) (.val (.bl b)) st = some (.val (.bl (a == b)), st) := by cases a <;> cases b <;> rfl
/-- the text of two truth values -/
def twoS (b : Bool) : PySem.Str := PyData.shown (.list [.bool b, .bool b])
theorem rep_two (b : Bool) : op1 .repr (.new [.bl b, .bl b]) st = some (.val (.str (twoS b)), st) := by
  have hs : (PyData.shown (.list [.bool b, .bool b])).length ≤ sizeLine := by cases b <;> decide +kernel
  have h2 : PyData.showable (.list [.bool b, .bool b]) = true := by cases b <;> rfl
  have e : toPyW st (.new [.bl b, .bl b]) = some (.list [.bool b, .bool b]) := by simp [toPyW, toPy]
  simp only [op1, e, hs, h2, and_self, if_true]
  rfl
theorem mul_two (b : Bool) : op2 .mul (.new [.bl b]) (.val (.int 2)) st = some (.new [.bl b, .bl b], st) := by
  simp [op2, lstOf, PySem.sizeLine_eq]
theorem ne_self (s : PySem.Str) : op2 .ne (.val (.str s)) (.val (.str s)) st = some (.val (.bl false), st) := by simp [o_neS]
theorem eq_self' (s : PySem.Str) : op2 .eq (.val (.str s)) (.val (.str s)) st = some (.val (.bl true), st) := by simp [o_eqS]
theorem isn_lt (o : Option Nat) : op2 .isn (.val (ltD o)) (.val .non) st = some (.val (.bl o.isSome), st) := by cases o <;> rfl
theorem ne_letters {c : Nat} (h : PyData.strOk ⟨#[c]⟩ = true) : op2 .ne (.new [.str ⟨#[c]⟩, .str ⟨#[c]⟩]) (.new [.str ⟨#[c]⟩, .str ⟨#[c]⟩]) st = some (.val (.bl false), st) := by
  refine ne_of_eq (b := true) ?_
  simp [op2, eqD, toPyW, toPy, h, PyData.eqv, PyData.eqvAll, vB, vD]
theorem letter_fuel : ∀ (n m : Nat) (t : TL) (v : D), dep t ≤ n → dep t ≤ m → Wf cs t → letterT n t v = letterT m t v
  | 0, _, t, _, h, _, _ => by have := dep_pos t; omega
  | _, 0, t, _, _, h, _ => by have := dep_pos t; omega
  | n + 1, m + 1, t, v, hn, hm, w => by
    cases hlt : isLt t with
    | true =>
      cases t with
      | lt c => rfl
      | _ => cases hlt
    | false =>
      have key : ∀ (s r : D), (if stepOk t s = true then (match innerT t s with | some u => letterT n u r | none => none) else none) = (if stepOk t s = true then (match innerT t s with | some u => letterT m u r | none => none) else none) := by
        intro s r
        by_cases hs : stepOk t s = true
        · obtain ⟨u, hi, hd, wu⟩ := inner_ok w hs
          rw [if_pos hs, if_pos hs, hi]
          exact letter_fuel n m u r (by omega) (by omega) wu
        · rw [if_neg hs, if_neg hs]
      cases t with
      | lt c => cases hlt
      | _ =>
        simp only [letterT]
        split
        · exact key _ _
        · rfl
theorem letter_in : ∀ (n : Nat) (t : TL) (v : D) (c : Nat), Wf cs t → letterT n t v = some c → c ∈ cs
  | 0, t, v, c, _, h => by simp [letterT] at h
  | n + 1, t, v, c, w, h => by
    have key : ∀ (s r : D), (if stepOk t s = true then (match innerT t s with | some u => letterT n u r | none => none) else none) = some c → c ∈ cs := by
      intro s r h
      by_cases hs : stepOk t s = true
      · obtain ⟨u, hi, hd, wu⟩ := inner_ok w hs
        rw [if_pos hs, hi] at h
        exact letter_in n u r c wu h
      · rw [if_neg hs] at h
        cases h
    cases t with
    | lt d =>
      simp only [letterT] at h
      split at h
      · cases h; exact w
      · cases h
    | _ =>
      simp only [letterT] at h
      split at h
      · exact key _ _ h
      · cases h
end
section
variable {tab : Nat → Option Fn} {k : Nat} {lp i : Nat} {cs : List Nat} {st : Sto}
theorem rounds5 : (5 : Nat) < rounds := by decide
theorem w_path_of (h : tab i = some ⟨2, 3, B_law_path_of⟩) {t : TL} {a : AD} {m : Nat} (hm : m ≤ 5) (hd : dep t ≤ 40) (w : Wf cs t) (ha : Ok t a) :
    Wp (evF tab (k + 1) i [encA a, .int (m : Nat)] st) fun x => ∃ ds, x = (.tup ds, st) ∧ PvL lp 1 st ds (701 * 5) := by
  rw [wp_fn h rfl]
  unfold B_law_path_of
  refine wp_step (P := fun r => r = (.nx, [some (encA a), some (.int (m : Nat)), some (.tup [])], st)) ?_ ?_
  · simp only [wpS, wps, wp_some, settle_r, nxt, trB, br_t, br_f, isV, List.map_cons, List.map_nil, List.cons_append, List.nil_append, List.replicate, Nat.sub_self, Nat.reduceSub, List.getElem?_cons_zero, List.getElem?_cons_succ, List.set_cons_zero, List.set_cons_succ, permute, List.mapM_cons, List.mapM_nil, Option.pure_def, Option.bind_eq_bind, Option.bind_some, List.length_cons, List.length_nil, bindTg, List.zip_cons_cons, List.zip_nil_left, List.zip_nil_right, List.foldl_cons, List.foldl_nil, PySem.sizeLine_eq, Nat.reduceAdd, Nat.reduceLeDiff, Nat.zero_le, eq_self, true_and, opsI, o_eqS, if_true]
  rintro _ rfl
  simp only [nxt]
  refine wp_step (P := fun r => ∃ (b : AD) (ds : List D), r = (.nx, [some (encA b), some (.int (m : Nat)), some (.tup ds)], st) ∧ PvL lp 1 st ds (701 * 5)) ?_ ?_
  · refine wp_wh (fun n ρ s => s = st ∧ ∃ (u : TL) (b : AD) (ds : List D), ρ = [some (encA b), some (.int (m : Nat)), some (.tup ds)] ∧ dep u ≤ 40 ∧ Wf cs u ∧ Ok u b ∧ PvL lp 1 st ds (701 * ds.length) ∧ ds.length + n = m) ?_ (n := m) (Nat.lt_of_le_of_lt hm rounds5) ⟨rfl, t, a, [], rfl, hd, w, ha, trivial, by simp⟩
    rintro n ρ s ⟨rfl, u, b, ds, rfl, hu, wu, hb, hp, hn⟩
    have pb := ((pv_encA (lp := lp) (st := s) 40 u b hu wu hb).ups (m := 60) (z := 702 * 40) (by omega) (by omega)).py
    have cond : evW (evF tab k) (.and (.p2 .lt (.p1 .len (.v 2)) (.v 1)) (.p2 .ne (.v 0) (.tup []))) [some (encA b), some (.int (m : Nat)), some (.tup ds)] s = some (.val (.bl (decide ((ds.length : Int) < (m : Int)) && !isNil (encA b))), s) :=
      w_and (w_p2 (w_p1 (w_v rfl) (opsI.2.2.2.2.2.2.2.2.2.2.2.1 s ds)) (w_v rfl) (opsI.2.2.1 s _ _)) fun _ => w_p2 (w_v rfl) (show _ = some (.val (.tup []), s) by simp [evW, evA, vD]) (ne_nil pb)
    rw [cond, wp_some]
    simp only [trB]
    cases hc : (decide ((ds.length : Int) < (m : Int)) && !isNil (encA b)) with
    | false => exact ⟨b, ds, rfl, hp.ups (Nat.le_refl _) (Nat.mul_le_mul_left _ (by omega))⟩
    | true =>
      simp only [Bool.and_eq_true, decide_eq_true_eq, Bool.not_eq_true'] at hc
      have hlt : isLt u = false := by
        cases u with
        | lt c =>
          cases b <;> simp only [Ok] at hb
          simp [encA, isNil] at hc
        | _ => rfl
      obtain ⟨u2, wu2, hb2, hd2⟩ := ok_next wu hb hlt
      have hh := pv_head (lp := lp) (st := s) wu hb hlt
      rw [enc_pair hb hlt]
      have line := line3
      have ad : op2 .add (.val (.tup ds)) (.val (.tup [headD b])) s = some (.val (.tup (ds ++ [headD b])), s) := add_tup (by simp only [List.length_cons, List.length_nil]; omega)
      refine ⟨n - 1, by omega, ?_⟩
      simp only [wpS, wps, wp_some, settle_r, nxt, trB, br_t, br_f, isV, List.map_cons, List.map_nil, List.cons_append, List.nil_append, List.replicate, Nat.sub_self, Nat.reduceSub, List.getElem?_cons_zero, List.getElem?_cons_succ, List.set_cons_zero, List.set_cons_succ, permute, List.mapM_cons, List.mapM_nil, Option.pure_def, Option.bind_eq_bind, Option.bind_some, List.length_cons, List.length_nil, bindTg, List.zip_cons_cons, List.zip_nil_left, List.zip_nil_right, List.foldl_cons, List.foldl_nil, PySem.sizeLine_eq, Nat.reduceAdd, Nat.reduceLeDiff, Nat.zero_le, eq_self, true_and, opsI, o_eqS, if_true, opsX, ad]
      refine ⟨u2, restA b, ds ++ [headD b], rfl, by omega, wu2, hb2, ?_, by simp only [List.length_append, List.length_cons, List.length_nil]; omega⟩
      exact (hp.app (PvL.cons hh (ds := []) (z := 0) trivial)).ups (Nat.le_refl _) (by simp only [List.length_append, List.length_cons, List.length_nil]; omega)
  · rintro _ ⟨b, ds, rfl, hp⟩
    simp only [wpS, wps, wp_some, settle_r, nxt, trB, br_t, br_f, isV, List.map_cons, List.map_nil, List.cons_append, List.nil_append, List.replicate, Nat.sub_self, Nat.reduceSub, List.getElem?_cons_zero, List.getElem?_cons_succ, List.set_cons_zero, List.set_cons_succ, permute, List.mapM_cons, List.mapM_nil, Option.pure_def, Option.bind_eq_bind, Option.bind_some, List.length_cons, List.length_nil, bindTg, List.zip_cons_cons, List.zip_nil_left, List.zip_nil_right, List.foldl_cons, List.foldl_nil, PySem.sizeLine_eq, Nat.reduceAdd, Nat.reduceLeDiff, Nat.zero_le, eq_self, true_and, opsI, o_eqS, if_true]
    exact ⟨ds, rfl, hp⟩
end
end Px

end

section
set_option maxHeartbeats 2000000
/-! Px34: the whole look at one drawn timeline (k14): its parts. -/
namespace Px
open Nx
open PySem (PyData sizeLine)
abbrev R1 : Nx.S := .asg 1 (.call 26 [(.v 0), (.call 25 [(.v 0), (.lst [(.k (.str "a")), (.k (.str "ab")), (.k (.str "abx"))])] [0, 1]), (.call 28 [] []), (.k (.int 5))] [0, 1, 2, 3])
abbrev R2 : Nx.S := .asgP [5, 6] [(.p1 .repr (.v 1)), (.comp 3 [(.k (.int 6))] (.n 12) (.k (.bl true)) (.call 29 [(.v 0), (.v 1)] [0, 1]))]
abbrev V3 : C := .p2 .add (.p2 .add (.v 6) (.lst [(.k .non), (.tup []), (.k (.int 0)), (.lst [(.k (.int 0)), (.tup [])])])) (.comp 3 [(.k (.int 10))] (.n 12) (.k (.bl true)) (.call 36 [(.v 0), (.call 25 [(.v 0), (.v 6)] [0, 1])] [0, 1]))
abbrev B3 : List Nx.S := [.asgP [9, 10] [(.call 35 [(.v 1), (.v 2)] [0, 1]), (.p1 .repr (.v 2))], .ite (.or (.p2 .ne (.p1 .repr (.lst [(.call 19 [(.v 1), (.v 2)] [0, 1]), (.call 19 [(.v 2), (.v 1)] [1, 0])])) (.p1 .repr (.p2 .mul (.lst [(.p2 .isn (.v 9) (.k .non))]) (.k (.int 2))))) (.p2 .ne (.p1 .repr (.v 2)) (.v 10))) [.ret (.k (.bl false))] [], .ite (.and (.p2 .isn (.v 9) (.k .non)) (.p2 .ne (.lst [(.call 21 [(.v 1), (.v 2)] [0, 1]), (.call 21 [(.v 2), (.v 1)] [1, 0])]) (.lst [(.v 9), (.v 9)]))) [.ret (.k (.bl false))] []]
abbrev R4 : Nx.S := .asg 3 (.comp 0 [(.v 6)] (.n 11) (.k (.bl true)) (.call 37 [(.v 11), (.call 24 [(.v 0), (.k (.int 6))] [0, 1])] [0, 1]))
abbrev V5 : C := .p2 .add (.p2 .add (.v 3) (.lst [(.k .non), (.k (.int 0)), (.p1 .list (.p2 .idx (.v 3) (.k (.int 0))))])) (.comp 3 [(.k (.int 8))] (.n 12) (.k (.bl true)) (.call 36 [(.v 0), (.call 25 [(.v 0), (.v 3)] [0, 1])] [0, 1]))
abbrev B5 : List Nx.S := [.asg 7 (.p2 .isn (.call 34 [(.v 1), (.v 2)] [0, 1]) (.k .non)), .ite (.p2 .ne (.p1 .repr (.lst [(.call 20 [(.v 1), (.v 2)] [0, 1]), (.call 20 [(.v 2), (.v 1)] [1, 0])])) (.p1 .repr (.lst [(.v 7), (.v 7)]))) [.ret (.k (.bl false))] []]
abbrev B6 : List Nx.S := [.asg 7 (.call 31 [(.v 1), (.v 4), (.v 8)] [0, 1, 2]), .ite (.p2 .ne (.p1 .repr (.lst [(.call 22 [(.v 1), (.v 4), (.v 8)] [0, 1, 2]), (.call 22 [(.v 8), (.v 4), (.v 1)] [2, 1, 0])])) (.p1 .repr (.lst [(.v 7), (.v 7)]))) [.ret (.k (.bl false))] [], .ite (.and (.p2 .ne (.v 4) (.v 8)) (.p2 .eq (.v 7) (.call 31 [(.v 1), (.v 8), (.v 4)] [0, 1, 2]))) [.ret (.k (.bl false))] []]
def B_right : List Nx.S := [R1, R2, .for_ 0 [V3] (.n 2) B3, R4, .for_ 0 [V5] (.n 2) B5, .for_ 0 [(.v 6)] (.n 4) [.for_ 0 [(.v 6)] (.n 8) B6], .ret (.p2 .eq (.p1 .repr (.v 1)) (.v 5))]
/-- the table of k14, as far as the law reaches it -/
structure K14At (tab : Nat → Option Fn) : Prop where
  A : PlaceAt tab 0 1 2 3 4 5 6 7 8 9 10 11 12 13 14 15 16 17 18 19 20 21 22
  T : TimeAt tab 24 25 26 27
  words : tab 28 = some ⟨0, 0, B_law_all_words⟩
  addr : tab 29 = some ⟨2, 7, B_law_address 24 29 25⟩
  lies : tab 30 = some ⟨2, 11, B_law_lies⟩
  ahead : tab 31 = some ⟨3, 5, B_law_is_ahead 30⟩
  step : tab 32 = some ⟨2, 5, B_law_is_step⟩
  part : tab 33 = some ⟨2, 4, B_law_part⟩
  piece : tab 34 = some ⟨2, 3, B_law_piece 32 33⟩
  letter : tab 35 = some ⟨2, 3, B_law_letter 32 33⟩
  bent : tab 36 = some ⟨2, 9, B_law_bent 24 25⟩
  path : tab 37 = some ⟨2, 3, B_law_path_of⟩
  right : tab 38 = some ⟨1, 13, B_right⟩
abbrev abxs : List Nat := [97, 98, 120]
theorem abx_lets : Lets abxs := by
  intro c hc
  simp only [abxs, List.mem_cons, List.not_mem_nil, or_false] at hc
  rcases hc with rfl | rfl | rfl <;> decide +kernel
theorem abx_alpha : Alpha abxs := by
  intro c hc
  simp only [abxs, List.mem_cons, List.not_mem_nil, or_false] at hc
  rcases hc with rfl | rfl | rfl <;> decide +kernel
theorem tm_drawn {t : TL} (h : Tm abxs 5 t) : Drawn abxs t := ⟨abx_alpha, by decide, h.wf, by have := h.sz; have := sz_100 5; omega, by have := h.dp; omega⟩
section
variable {tab : Nat → Option Fn} {k : Nat} {lp : Nat}
theorem right_one (K : K14At tab) {st : Sto} (P : Pot lp st) :
    Wp (exS (evF tab (k + 60)) R1 [some (.ref lp), none, none, none, none, none, none, none, none, none, none, none, none] st)
      fun r => ∃ t s1, r = (.nx, [some (.ref lp), some (enc t), none, none, none, none, none, none, none, none, none, none, none], s1) ∧ Tm abxs 5 t ∧ Gw lp st s1 ∧ Pot lp s1 := by
  have hlp : lp < st.length := by obtain ⟨a, b, e, _⟩ := P; exact (List.getElem?_eq_some_iff.mp e).1
  simp only [wpS, wps, wp_some, settle_r, nxt, trB, br_t, br_f, isV, List.map_cons, List.map_nil, List.cons_append, List.nil_append, List.replicate, Nat.sub_self, Nat.reduceSub, List.getElem?_cons_zero, List.getElem?_cons_succ, List.set_cons_zero, List.set_cons_succ, permute, List.mapM_cons, List.mapM_nil, Option.pure_def, Option.bind_eq_bind, Option.bind_some, List.length_cons, List.length_nil, bindTg, List.zip_cons_cons, List.zip_nil_left, List.zip_nil_right, List.foldl_cons, List.foldl_nil, PySem.sizeLine_eq, Nat.reduceAdd, Nat.reduceLeDiff, Nat.zero_le, eq_self, true_and, opsI, o_eqS, if_true]
  refine (w_pick (k := k + 58) K.T.P (P.ex (Ex.snoc _ _)) (at_snoc st _) (by omega) (by simp) (by simp)).mono ?_
  rintro ⟨d, s1⟩ ⟨m, g1, P1⟩
  have g1 := (Ex.snoc st _).gw.trans g1
  have hd : ∃ s : PySem.Str, d = .str s ∧ 0 < s.length ∧ s.length < 100 ∧ ∀ c ∈ s.cps.toList, c ∈ abxs := by
    simp only [List.mem_cons, List.not_mem_nil, or_false] at m
    rcases m with rfl | rfl | rfl
    · exact ⟨"a", rfl, by decide, by decide, by decide⟩
    · exact ⟨"ab", rfl, by decide, by decide, by decide⟩
    · exact ⟨"abx", rfl, by decide, by decide, by decide⟩
  obtain ⟨s, rfl, h0, h1, hc⟩ := hd
  have hl1 : lp < s1.length := by obtain ⟨a, b, e, _⟩ := P1; exact (List.getElem?_eq_some_iff.mp e).1
  simp only [wpS, wps, wp_some, settle_r, nxt, trB, br_t, br_f, isV, List.map_cons, List.map_nil, List.cons_append, List.nil_append, List.replicate, Nat.sub_self, Nat.reduceSub, List.getElem?_cons_zero, List.getElem?_cons_succ, List.set_cons_zero, List.set_cons_succ, permute, List.mapM_cons, List.mapM_nil, Option.pure_def, Option.bind_eq_bind, Option.bind_some, List.length_cons, List.length_nil, bindTg, List.zip_cons_cons, List.zip_nil_left, List.zip_nil_right, List.foldl_cons, List.foldl_nil, PySem.sizeLine_eq, Nat.reduceAdd, Nat.reduceLeDiff, Nat.zero_le, eq_self, true_and, opsI, o_eqS, if_true, x_all_words (vs := []) (n := 0) (k := k + 59) (st := s1) K.words rfl]
  refine (w_time (k := k + 53) (lw := s1.length) K.T h0 h1 hc (by omega) 5 _ (by omega) (by omega) (P1.ex (Ex.snoc _ _)) (at_snoc s1 _)).mono ?_
  rintro ⟨d, s2⟩ ⟨⟨t, rfl, ht⟩, g2, P2⟩
  simp only [wpS, wps, wp_some, settle_r, nxt, trB, br_t, br_f, isV, List.map_cons, List.map_nil, List.cons_append, List.nil_append, List.replicate, Nat.sub_self, Nat.reduceSub, List.getElem?_cons_zero, List.getElem?_cons_succ, List.set_cons_zero, List.set_cons_succ, permute, List.mapM_cons, List.mapM_nil, Option.pure_def, Option.bind_eq_bind, Option.bind_some, List.length_cons, List.length_nil, bindTg, List.zip_cons_cons, List.zip_nil_left, List.zip_nil_right, List.foldl_cons, List.foldl_nil, PySem.sizeLine_eq, Nat.reduceAdd, Nat.reduceLeDiff, Nat.zero_le, eq_self, true_and, opsI, o_eqS, if_true]
  exact ⟨t, s2, rfl, ht, g1.trans ((Ex.snoc s1 _).gw.trans g2), P2⟩
theorem ex_places {t : TL} : ∀ {es : List D}, (∀ e ∈ es, ∃ a, e = encA a ∧ Ok t a) → ∃ as : List AD, es = as.map encA ∧ ∀ a ∈ as, Ok t a
  | [], _ => ⟨[], rfl, fun _ h => nomatch h⟩
  | e :: r, h => by
    obtain ⟨t, rfl, pt⟩ := h e (by simp)
    obtain ⟨ts, rfl, pts⟩ := ex_places fun e he => h e (List.mem_cons_of_mem _ he)
    exact ⟨t :: ts, rfl, fun u hu => (List.mem_cons.mp hu).elim (fun q => q ▸ pt) (pts u)⟩
theorem right_two (K : K14At tab) {st : Sto} {t : TL} (ht : Tm abxs 5 t) (P : Pot lp st) :
    Wp (exS (evF tab (k + 60)) R2 [some (.ref lp), some (enc t), none, none, none, none, none, none, none, none, none, none, none] st)
      fun r => ∃ (sh : PySem.Str) (as : List AD) (pl : Nat) (s1 : Sto), r = (.nx, [some (.ref lp), some (enc t), none, none, none, some (.str sh), some (.ref pl), none, none, none, none, none, none], s1) ∧ pl ≠ lp ∧ s1[pl]? = some (.lst (as.map encA)) ∧ as.length = 6 ∧ (∀ a ∈ as, Ok t a) ∧
        (∀ s', Gw lp s1 s' → op1 .repr (.val (enc t)) s' = some (.val (.str sh), s')) ∧ Gw lp st s1 ∧ Pot lp s1 := by
  have pt := (pv_enc (lp := lp) (st := st) abx_lets t ht.wf).ups (m := 60) (z := 2000) (by have := ht.dp; omega) (by have := ht.sz; have := sz_100 5; omega)
  obtain ⟨sh, hsh⟩ := pt.repr (by omega)
  have hlp : lp < st.length := by obtain ⟨a, b, e, _⟩ := P; exact (List.getElem?_eq_some_iff.mp e).1
  simp only [wpS, wps, wp_some, settle_r, nxt, trB, br_t, br_f, isV, List.map_cons, List.map_nil, List.cons_append, List.nil_append, List.replicate, Nat.sub_self, Nat.reduceSub, List.getElem?_cons_zero, List.getElem?_cons_succ, List.set_cons_zero, List.set_cons_succ, permute, List.mapM_cons, List.mapM_nil, Option.pure_def, Option.bind_eq_bind, Option.bind_some, List.length_cons, List.length_nil, bindTg, List.zip_cons_cons, List.zip_nil_left, List.zip_nil_right, List.foldl_cons, List.foldl_nil, PySem.sizeLine_eq, Nat.reduceAdd, Nat.reduceLeDiff, Nat.zero_le, eq_self, true_and, opsI, o_eqS, if_true, hsh st (Gw.refl _ _), wp_comp, walk_range1 (show (6 : Int) < 1000000 by omega) (show (-1000000 : Int) < 6 by omega)]
  refine (wp_compAll (P := fun e => ∃ a, e = encA a ∧ Ok t a) (J := fun z => Gw lp st z ∧ Pot lp z) (fun _ _ => rfl) _ _ ?_ (by decide) ⟨Gw.refl _ _, P⟩).mono ?_
  · rintro d _ z ⟨gz, Pz⟩
    rw [wp_turn]
    simp only [wpS, wps, wp_some, settle_r, nxt, trB, br_t, br_f, isV, List.map_cons, List.map_nil, List.cons_append, List.nil_append, List.replicate, Nat.sub_self, Nat.reduceSub, List.getElem?_cons_zero, List.getElem?_cons_succ, List.set_cons_zero, List.set_cons_succ, permute, List.mapM_cons, List.mapM_nil, Option.pure_def, Option.bind_eq_bind, Option.bind_some, List.length_cons, List.length_nil, bindTg, List.zip_cons_cons, List.zip_nil_left, List.zip_nil_right, List.foldl_cons, List.foldl_nil, PySem.sizeLine_eq, Nat.reduceAdd, Nat.reduceLeDiff, Nat.zero_le, eq_self, true_and, opsI, o_eqS, if_true]
    refine (w_address (k := k + 53) K.T.P K.addr 5 t z ht.dp ht.wf Pz).mono ?_
    rintro ⟨d, z2⟩ ⟨⟨a, rfl, ha⟩, gz2, Pz2⟩
    exact ⟨_, rfl, ⟨a, rfl, ha⟩, gz.trans gz2, Pz2⟩
  · rintro ⟨es, s3⟩ ⟨hl, he, g3, P3⟩
    obtain ⟨as, rfl, ha⟩ := ex_places he
    have hl3 : lp < s3.length := by obtain ⟨a, b, e, _⟩ := P3; exact (List.getElem?_eq_some_iff.mp e).1
    simp only [wpS, wps, wp_some, settle_r, nxt, trB, br_t, br_f, isV, List.map_cons, List.map_nil, List.cons_append, List.nil_append, List.replicate, Nat.sub_self, Nat.reduceSub, List.getElem?_cons_zero, List.getElem?_cons_succ, List.set_cons_zero, List.set_cons_succ, permute, List.mapM_cons, List.mapM_nil, Option.pure_def, Option.bind_eq_bind, Option.bind_some, List.length_cons, List.length_nil, bindTg, List.zip_cons_cons, List.zip_nil_left, List.zip_nil_right, List.foldl_cons, List.foldl_nil, PySem.sizeLine_eq, Nat.reduceAdd, Nat.reduceLeDiff, Nat.zero_le, eq_self, true_and, opsI, o_eqS, if_true]
    refine ⟨sh, as, s3.length, _, rfl, by omega, at_snoc _ _, ?_, ha, fun s' g => hsh s' ((g3.trans (Ex.snoc _ _).gw).trans g), g3.trans (Ex.snoc _ _).gw, P3.ex (Ex.snoc _ _)⟩
    have : (rangeD 0 6).length = 6 := by decide
    simp only [List.length_map] at hl
    omega
end
end Px

end

section
set_option maxHeartbeats 2000000
/-! Px35: k14's first walk: any value as an address. -/
namespace Px
open Nx
open PySem (PyData sizeLine)
section
variable {tab : Nat → Option Fn} {k : Nat} {lp : Nat}
/-- values made by bending some of a list -/
theorem w_bents (K : K14At tab) {w12 : Option D} {ρ : Rho} {iv l n w m : Nat} {xs : List D} (h0 : ρ[0]? = some (some (.ref lp))) (hiv : ρ[iv]? = some (some (.ref l))) (hz : iv ≠ 12) {st : Sto} (P : Pot lp st) (hl : st[l]? = some (.lst xs)) (ne : l ≠ lp)
    (hx0 : xs ≠ []) (hx1 : xs.length < 1000) (hx : ∀ x ∈ xs, Pv lp n w st x) (hn : n ≤ 40) (hw : w ≤ 3600) (hm : m ≤ 100) :
    Wp (evW (evF tab (k + 60)) (.comp 3 [(.k (.int (m : Nat)))] (.n 12) (.k (.bl true)) (.call 36 [(.v 0), (.call 25 [(.v 0), (.v iv)] [0, 1])] [0, 1])) ρ st)
      fun y => ∃ es s', y = (.new es, s') ∧ es.length = m ∧ (∀ e ∈ es, Pv lp (n + 7) 60000 s' e) ∧ Gw lp st s' ∧ Pot lp s' := by
  rw [wp_comp]
  simp only [wpS, wps, wp_some, settle_r, nxt, trB, br_t, br_f, isV, List.map_cons, List.map_nil, List.cons_append, List.nil_append, List.replicate, Nat.sub_self, Nat.reduceSub, List.getElem?_cons_zero, List.getElem?_cons_succ, List.set_cons_zero, List.set_cons_succ, permute, List.mapM_cons, List.mapM_nil, Option.pure_def, Option.bind_eq_bind, Option.bind_some, List.length_cons, List.length_nil, bindTg, List.zip_cons_cons, List.zip_nil_left, List.zip_nil_right, List.foldl_cons, List.foldl_nil, PySem.sizeLine_eq, Nat.reduceAdd, Nat.reduceLeDiff, Nat.zero_le, eq_self, true_and, opsI, o_eqS, if_true, walk_range1 (show (m : Int) < 1000000 by omega) (show (-1000000 : Int) < m by omega)]
  refine (wp_compG (P := fun s e => Pv lp (n + 7) 60000 s e) (J := fun z => Gw lp st z ∧ Pot lp z) (R := fun a b => Gw lp a b) (fun _ _ => rfl) (Gw.refl lp) (fun _ _ _ => Gw.trans) (fun _ _ _ g h => h.gw g) _ _ ?_ ?_ ⟨Gw.refl _ _, P⟩).mono ?_
  · rintro d _ z ⟨gz, Pz⟩
    rw [wp_turn]
    have e0 : (ρ.set 12 (some d))[0]? = some (some (.ref lp)) := by rw [List.getElem?_set_ne (by omega)]; exact h0
    have e1 : (ρ.set 12 (some d))[iv]? = some (some (.ref l)) := by rw [List.getElem?_set_ne (by omega)]; exact hiv
    simp only [wpS, wps, wp_some, settle_r, nxt, trB, br_t, br_f, isV, List.map_cons, List.map_nil, List.cons_append, List.nil_append, List.replicate, Nat.sub_self, Nat.reduceSub, List.getElem?_cons_zero, List.getElem?_cons_succ, List.set_cons_zero, List.set_cons_succ, permute, List.mapM_cons, List.mapM_nil, Option.pure_def, Option.bind_eq_bind, Option.bind_some, List.length_cons, List.length_nil, bindTg, List.zip_cons_cons, List.zip_nil_left, List.zip_nil_right, List.foldl_cons, List.foldl_nil, PySem.sizeLine_eq, Nat.reduceAdd, Nat.reduceLeDiff, Nat.zero_le, eq_self, true_and, opsI, o_eqS, if_true, e0, e1]
    refine (w_pick (k := k + 58) K.T.P Pz (gz _ _ ne hl) ne hx0 (by omega)).mono ?_
    rintro ⟨d, z1⟩ ⟨md, g1, P1⟩
    simp only [wpS, wps, wp_some, settle_r, nxt, trB, br_t, br_f, isV, List.map_cons, List.map_nil, List.cons_append, List.nil_append, List.replicate, Nat.sub_self, Nat.reduceSub, List.getElem?_cons_zero, List.getElem?_cons_succ, List.set_cons_zero, List.set_cons_succ, permute, List.mapM_cons, List.mapM_nil, Option.pure_def, Option.bind_eq_bind, Option.bind_some, List.length_cons, List.length_nil, bindTg, List.zip_cons_cons, List.zip_nil_left, List.zip_nil_right, List.foldl_cons, List.foldl_nil, PySem.sizeLine_eq, Nat.reduceAdd, Nat.reduceLeDiff, Nat.zero_le, eq_self, true_and, opsI, o_eqS, if_true]
    refine (w_bent (k := k + 57) K.T.P K.bent P1 ((hx d md).gw (gz.trans g1)) hn (by omega)).mono ?_
    rintro ⟨e, z2⟩ ⟨pe, g2, P2⟩
    exact ⟨_, rfl, pe.ups (Nat.le_refl _) (by omega), ⟨(gz.trans g1).trans g2, P2⟩, g1.trans g2⟩
  · rw [rng_len]; have := line100; omega
  · rintro ⟨es, s'⟩ ⟨hl, he, ⟨g, P'⟩, _⟩
    exact ⟨es, s', rfl, by simpa [rng_len] using hl, he, g, P'⟩
theorem right_vals (K : K14At tab) {t : TL} {as : List AD} {pl : Nat} {o1 o2 o3 o4 o5 o7 o8 o9 o10 o11 o12 : Option D} {st : Sto} (ht : Tm abxs 5 t) (ha : ∀ a ∈ as, Ok t a) (hl : as.length = 6) (P : Pot lp st) (hp : st[pl]? = some (.lst (as.map encA))) (ne : pl ≠ lp) :
    Wp (iW (evF tab (k + 60)) 0 [V3] [some (.ref lp), o1, o2, o3, o4, o5, some (.ref pl), o7, o8, o9, o10, o11, o12] st)
      fun y => ∃ vs s', y = ((vs, []), s') ∧ (∀ v ∈ vs, Pv lp 20 60000 s' v) ∧ Gw lp st s' ∧ Pot lp s' := by
  have hlp : lp < st.length := by obtain ⟨a, b, e, _⟩ := P; exact (List.getElem?_eq_some_iff.mp e).1
  have px : Ex st (st ++ [.lst [.int 0, .tup []]]) := Ex.snoc _ _
  have hml : (as.map encA).length = 6 := by rw [List.length_map, hl]
  have line := line100
  have ad := add_new (st := st ++ [.lst [.int 0, .tup []]]) (es := [.non, .tup [], .int 0, .ref st.length]) (px _ _ hp) (by rw [hml]; simp only [List.length_cons, List.length_nil]; omega)
  have pa : ∀ s : Sto, ∀ x ∈ as.map encA, Pv lp 7 3510 s x := by
    intro s x hx
    obtain ⟨a, ma, rfl⟩ := List.mem_map.mp hx
    exact (pv_encA 5 t a ht.dp ht.wf (ha a ma)).ups (by omega) (by omega)
  have e10 : (10 : Int) = ((10 : Nat) : Int) := rfl
  simp only [wpS, wps, wp_some, settle_r, nxt, trB, br_t, br_f, isV, List.map_cons, List.map_nil, List.cons_append, List.nil_append, List.replicate, Nat.sub_self, Nat.reduceSub, List.getElem?_cons_zero, List.getElem?_cons_succ, List.set_cons_zero, List.set_cons_succ, permute, List.mapM_cons, List.mapM_nil, Option.pure_def, Option.bind_eq_bind, Option.bind_some, List.length_cons, List.length_nil, bindTg, List.zip_cons_cons, List.zip_nil_left, List.zip_nil_right, List.foldl_cons, List.foldl_nil, PySem.sizeLine_eq, Nat.reduceAdd, Nat.reduceLeDiff, Nat.zero_le, eq_self, true_and, opsI, o_eqS, if_true, ad]
  rw [e10]
  refine (w_bents (k := k) K (iv := 6) (n := 7) (w := 3510) (w12 := none) rfl rfl (by omega) (P.ex px) (px _ _ hp) ne (by intro h; rw [h] at hml; cases hml) (by omega) (pa _) (by omega) (by omega) (by omega)).mono ?_
  rintro _ ⟨es, s', rfl, le, pe, g, P'⟩
  have ad2 : op2 .add (.new ((as.map encA) ++ [.non, .tup [], .int 0, .ref st.length])) (.new es) s' = some (.new ((as.map encA) ++ [.non, .tup [], .int 0, .ref st.length] ++ es), s') := by
    have : ((as.map encA) ++ [D.non, .tup [], .int 0, .ref st.length]).length + es.length ≤ sizeLine := by
      rw [List.length_append, hml, le]
      simp only [List.length_cons, List.length_nil]
      omega
    simp only [op2, lstOf]
    rw [if_pos this]
  simp only [ad2, wp_some, walkOf]
  refine ⟨_, s', rfl, ?_, px.gw.trans g, P'⟩
  intro v hv
  have nil : ∀ n s, Pv lp (n + 1) 0 s (.tup []) := fun n s => PvL.tup (ds := []) (w := 0) (n := n) trivial
  rcases List.mem_append.mp hv with q | q
  · rcases List.mem_append.mp q with q | q
    · exact (pa s' v q).ups (by omega) (by omega)
    · simp only [List.mem_cons, List.not_mem_nil, or_false] at q
      rcases q with rfl | rfl | rfl | rfl
      · exact Pv.non.ups (Nat.le_refl _) (by omega)
      · exact (nil 19 s').ups (by omega) (by omega)
      · exact (Pv.int (by decide)).ups (Nat.le_refl _) (by omega)
      · have r := PvL.ref (lp := lp) (n := 1) (at_snoc st (.lst [.int 0, .tup []])) (by omega) (pv_i 1 _ 0 (by decide) _ _ (PvL.cons (nil 0 _) (ds := []) (z := 0) trivial))
        exact (r.gw g).ups (by omega) (by omega)
  · exact (pe v q).ups (by omega) (by omega)
theorem wp_addr (K : K14At tab) {t : TL} (W : Drawn abxs t) {v : D} {st : Sto} (hv : Py st 60 v) : Wp (evF tab (k + 60) 19 [enc t, v] st) fun x => ∃ s', x = (.bl (letterT 16 t v).isSome, s') ∧ Ex st s' := by
  obtain ⟨s', e, x⟩ := p_is_address (k := k + 39) K.A W hv
  exact .of e ⟨s', rfl, x⟩
theorem wp_letter (K : K14At tab) {t : TL} (W : Drawn abxs t) {v : D} {st : Sto} {c : Nat} (hv : Py st 60 v) (hl : letterT 16 t v = some c) : Wp (evF tab (k + 60) 21 [enc t, v] st) fun x => ∃ s', x = (.str ⟨#[c]⟩, s') ∧ Ex st s' := by
  obtain ⟨s', e, x⟩ := p_letter_at (k := k + 38) K.A W hv hl
  exact .of e ⟨s', rfl, x⟩
/-- one value -/
theorem right_value (K : K14At tab) {t : TL} {v : D} {o3 o4 o5 o6 o7 o8 o9 o10 o11 o12 : Option D} {st : Sto} (ht : Tm abxs 5 t) (P : Pot lp st) (hv : Pv lp 20 60000 st v) :
    Wp (exB (evF tab (k + 60)) B3 [some (.ref lp), some (enc t), some v, o3, o4, o5, o6, o7, o8, o9, o10, o11, o12] st)
      fun r => ∃ p9 p10 s', r = (.nx, [some (.ref lp), some (enc t), some v, o3, o4, o5, o6, o7, o8, p9, p10, o11, o12], s') ∧ Gw lp st s' ∧ Pot lp s' := by
  have W := tm_drawn ht
  have v60 := hv.ups (m := 60) (z := 60000) (by omega) (Nat.le_refl _)
  obtain ⟨sh, hsh⟩ := v60.repr (by omega)
  have el := x_law_letter (k := k + 58) (st := st) K.step K.part K.letter ht.wf v60.py (by have := ht.dp; omega)
  rw [letter_fuel 40 16 t v (by have := ht.dp; omega) (by have := ht.dp; omega) ht.wf] at el
  refine wp_step (P := fun r => r = (.nx, [some (.ref lp), some (enc t), some v, o3, o4, o5, o6, o7, o8, some (ltD (letterT 16 t v)), some (.str sh), o11, o12], st)) ?_ ?_
  · simp only [wpS, wps, wp_some, settle_r, nxt, trB, br_t, br_f, isV, List.map_cons, List.map_nil, List.cons_append, List.nil_append, List.replicate, Nat.sub_self, Nat.reduceSub, List.getElem?_cons_zero, List.getElem?_cons_succ, List.set_cons_zero, List.set_cons_succ, permute, List.mapM_cons, List.mapM_nil, Option.pure_def, Option.bind_eq_bind, Option.bind_some, List.length_cons, List.length_nil, bindTg, List.zip_cons_cons, List.zip_nil_left, List.zip_nil_right, List.foldl_cons, List.foldl_nil, PySem.sizeLine_eq, Nat.reduceAdd, Nat.reduceLeDiff, Nat.zero_le, eq_self, true_and, opsI, o_eqS, if_true, el, hsh st (Gw.refl _ _)]
  rintro _ rfl
  simp only [nxt]
  refine wp_step (P := fun r => ∃ s', r = (.nx, [some (.ref lp), some (enc t), some v, o3, o4, o5, o6, o7, o8, some (ltD (letterT 16 t v)), some (.str sh), o11, o12], s') ∧ Ex st s') ?_ ?_
  · simp only [wpS, wps, wp_some, settle_r, nxt, trB, br_t, br_f, isV, List.map_cons, List.map_nil, List.cons_append, List.nil_append, List.replicate, Nat.sub_self, Nat.reduceSub, List.getElem?_cons_zero, List.getElem?_cons_succ, List.set_cons_zero, List.set_cons_succ, permute, List.mapM_cons, List.mapM_nil, Option.pure_def, Option.bind_eq_bind, Option.bind_some, List.length_cons, List.length_nil, bindTg, List.zip_cons_cons, List.zip_nil_left, List.zip_nil_right, List.foldl_cons, List.foldl_nil, PySem.sizeLine_eq, Nat.reduceAdd, Nat.reduceLeDiff, Nat.zero_le, eq_self, true_and, opsI, o_eqS, if_true]
    refine (wp_addr K W v60.py).mono ?_
    rintro _ ⟨s1, rfl, x1⟩
    simp only [wpS, wps, wp_some, settle_r, nxt, trB, br_t, br_f, isV, List.map_cons, List.map_nil, List.cons_append, List.nil_append, List.replicate, Nat.sub_self, Nat.reduceSub, List.getElem?_cons_zero, List.getElem?_cons_succ, List.set_cons_zero, List.set_cons_succ, permute, List.mapM_cons, List.mapM_nil, Option.pure_def, Option.bind_eq_bind, Option.bind_some, List.length_cons, List.length_nil, bindTg, List.zip_cons_cons, List.zip_nil_left, List.zip_nil_right, List.foldl_cons, List.foldl_nil, PySem.sizeLine_eq, Nat.reduceAdd, Nat.reduceLeDiff, Nat.zero_le, eq_self, true_and, opsI, o_eqS, if_true]
    refine (wp_addr K W (v60.gw x1.gw).py).mono ?_
    rintro _ ⟨s2, rfl, x2⟩
    simp only [wpS, wps, wp_some, settle_r, nxt, trB, br_t, br_f, isV, List.map_cons, List.map_nil, List.cons_append, List.nil_append, List.replicate, Nat.sub_self, Nat.reduceSub, List.getElem?_cons_zero, List.getElem?_cons_succ, List.set_cons_zero, List.set_cons_succ, permute, List.mapM_cons, List.mapM_nil, Option.pure_def, Option.bind_eq_bind, Option.bind_some, List.length_cons, List.length_nil, bindTg, List.zip_cons_cons, List.zip_nil_left, List.zip_nil_right, List.foldl_cons, List.foldl_nil, PySem.sizeLine_eq, Nat.reduceAdd, Nat.reduceLeDiff, Nat.zero_le, eq_self, true_and, opsI, o_eqS, if_true, rep_two, isn_lt, mul_two, ne_self, hsh s2 (x1.trans x2).gw]
    exact ⟨s2, rfl, x1.trans x2⟩
  rintro _ ⟨s1, rfl, x1⟩
  simp only [nxt]
  cases hl : letterT 16 t v with
  | none =>
    have i0 : ∀ s, op2 .isn (.val (ltD none)) (.val .non) s = some (.val (.bl false), s) := fun _ => rfl
    simp only [wpS, wps, wp_some, settle_r, nxt, trB, br_t, br_f, isV, List.map_cons, List.map_nil, List.cons_append, List.nil_append, List.replicate, Nat.sub_self, Nat.reduceSub, List.getElem?_cons_zero, List.getElem?_cons_succ, List.set_cons_zero, List.set_cons_succ, permute, List.mapM_cons, List.mapM_nil, Option.pure_def, Option.bind_eq_bind, Option.bind_some, List.length_cons, List.length_nil, bindTg, List.zip_cons_cons, List.zip_nil_left, List.zip_nil_right, List.foldl_cons, List.foldl_nil, PySem.sizeLine_eq, Nat.reduceAdd, Nat.reduceLeDiff, Nat.zero_le, eq_self, true_and, opsI, o_eqS, if_true, i0]
    exact ⟨_, _, s1, rfl, x1.gw, P.ex x1⟩
  | some c =>
    have i1 : ∀ s, op2 .isn (.val (ltD (some c))) (.val .non) s = some (.val (.bl true), s) := fun _ => rfl
    have hc := (abx_lets c (letter_in 16 t v c ht.wf hl)).1
    simp only [wpS, wps, wp_some, settle_r, nxt, trB, br_t, br_f, isV, List.map_cons, List.map_nil, List.cons_append, List.nil_append, List.replicate, Nat.sub_self, Nat.reduceSub, List.getElem?_cons_zero, List.getElem?_cons_succ, List.set_cons_zero, List.set_cons_succ, permute, List.mapM_cons, List.mapM_nil, Option.pure_def, Option.bind_eq_bind, Option.bind_some, List.length_cons, List.length_nil, bindTg, List.zip_cons_cons, List.zip_nil_left, List.zip_nil_right, List.foldl_cons, List.foldl_nil, PySem.sizeLine_eq, Nat.reduceAdd, Nat.reduceLeDiff, Nat.zero_le, eq_self, true_and, opsI, o_eqS, if_true, i1]
    refine (wp_letter K W (v60.gw x1.gw).py hl).mono ?_
    rintro _ ⟨s2, rfl, x2⟩
    simp only [wpS, wps, wp_some, settle_r, nxt, trB, br_t, br_f, isV, List.map_cons, List.map_nil, List.cons_append, List.nil_append, List.replicate, Nat.sub_self, Nat.reduceSub, List.getElem?_cons_zero, List.getElem?_cons_succ, List.set_cons_zero, List.set_cons_succ, permute, List.mapM_cons, List.mapM_nil, Option.pure_def, Option.bind_eq_bind, Option.bind_some, List.length_cons, List.length_nil, bindTg, List.zip_cons_cons, List.zip_nil_left, List.zip_nil_right, List.foldl_cons, List.foldl_nil, PySem.sizeLine_eq, Nat.reduceAdd, Nat.reduceLeDiff, Nat.zero_le, eq_self, true_and, opsI, o_eqS, if_true]
    refine (wp_letter K W (v60.gw (x1.trans x2).gw).py hl).mono ?_
    rintro _ ⟨s3, rfl, x3⟩
    have nl := ne_letters (st := s3) hc
    simp only [wpS, wps, wp_some, settle_r, nxt, trB, br_t, br_f, isV, List.map_cons, List.map_nil, List.cons_append, List.nil_append, List.replicate, Nat.sub_self, Nat.reduceSub, List.getElem?_cons_zero, List.getElem?_cons_succ, List.set_cons_zero, List.set_cons_succ, permute, List.mapM_cons, List.mapM_nil, Option.pure_def, Option.bind_eq_bind, Option.bind_some, List.length_cons, List.length_nil, bindTg, List.zip_cons_cons, List.zip_nil_left, List.zip_nil_right, List.foldl_cons, List.foldl_nil, PySem.sizeLine_eq, Nat.reduceAdd, Nat.reduceLeDiff, Nat.zero_le, eq_self, true_and, opsI, o_eqS, if_true]
    refine Wp.of nl ?_
    simp only [wpS, wps, wp_some, settle_r, nxt, trB, br_t, br_f, isV, List.map_cons, List.map_nil, List.cons_append, List.nil_append, List.replicate, Nat.sub_self, Nat.reduceSub, List.getElem?_cons_zero, List.getElem?_cons_succ, List.set_cons_zero, List.set_cons_succ, permute, List.mapM_cons, List.mapM_nil, Option.pure_def, Option.bind_eq_bind, Option.bind_some, List.length_cons, List.length_nil, bindTg, List.zip_cons_cons, List.zip_nil_left, List.zip_nil_right, List.foldl_cons, List.foldl_nil, PySem.sizeLine_eq, Nat.reduceAdd, Nat.reduceLeDiff, Nat.zero_le, eq_self, true_and, opsI, o_eqS, if_true]
    exact ⟨_, _, s3, rfl, ((x1.trans x2).trans x3).gw, P.ex ((x1.trans x2).trans x3)⟩
theorem right_three (K : K14At tab) {t : TL} {as : List AD} {pl : Nat} {o2 o3 o4 o5 o7 o8 o9 o10 o11 o12 : Option D} {st : Sto} (ht : Tm abxs 5 t) (ha : ∀ a ∈ as, Ok t a) (hl : as.length = 6) (P : Pot lp st) (hp : st[pl]? = some (.lst (as.map encA))) (ne : pl ≠ lp) :
    Wp (exS (evF tab (k + 60)) (.for_ 0 [V3] (.n 2) B3) [some (.ref lp), some (enc t), o2, o3, o4, o5, some (.ref pl), o7, o8, o9, o10, o11, o12] st)
      fun r => ∃ p2 p9 p10 s', r = (.nx, [some (.ref lp), some (enc t), p2, o3, o4, o5, some (.ref pl), o7, o8, p9, p10, o11, o12], s') ∧ Gw lp st s' ∧ Pot lp s' := by
  rw [wp_for]
  refine (right_vals K ht ha hl P hp ne).mono ?_
  rintro _ ⟨vs, s1, rfl, hvs, g1, P1⟩
  simp only
  refine wp_forLoop (fun r ρ s => ∃ p2 p9 p10, ρ = [some (.ref lp), some (enc t), p2, o3, o4, o5, some (.ref pl), o7, o8, p9, p10, o11, o12] ∧ Gw lp s1 s ∧ Pot lp s ∧ ∀ v ∈ r, Pv lp 20 60000 s1 v) (fun _ _ _ _ => rfl) ?_ ?_ _ _ _ ⟨o2, o9, o10, rfl, Gw.refl _ _, P1, hvs⟩
  · rintro d r ρ s ⟨p2, p9, p10, rfl, g, Ps, hr⟩
    simp only [bindTg, List.set_cons_zero, List.set_cons_succ]
    refine (right_value K ht Ps ((hr d (by simp)).gw g)).mono ?_
    rintro _ ⟨q9, q10, s', rfl, g', P'⟩
    exact ⟨_, _, _, rfl, g.trans g', P', fun v hv => hr v (by simp [hv])⟩
  · rintro ρ s ⟨p2, p9, p10, rfl, g, Ps, hr⟩
    exact ⟨p2, p9, p10, s, rfl, g1.trans g, Ps⟩
end
end Px

end

section
set_option maxHeartbeats 2000000
/-! Px36: k14's other walks, and the whole look. -/
namespace Px
open Nx
open PySem (PyData sizeLine)
section
variable {tab : Nat → Option Fn} {k : Nat} {lp : Nat}
theorem right_four (K : K14At tab) {t : TL} {as : List AD} {pl : Nat} {o2 o3 o4 o5 o7 o8 o9 o10 o11 o12 : Option D} {st : Sto} (ht : Tm abxs 5 t) (ha : ∀ a ∈ as, Ok t a) (hl : as.length = 6) (P : Pot lp st) (hp : st[pl]? = some (.lst (as.map encA))) (ne : pl ≠ lp) :
    Wp (exS (evF tab (k + 60)) R4 [some (.ref lp), some (enc t), o2, o3, o4, o5, some (.ref pl), o7, o8, o9, o10, o11, o12] st)
      fun r => ∃ (pa : Nat) (es : List D) (s' : Sto), r = (.nx, [some (.ref lp), some (enc t), o2, some (.ref pa), o4, o5, some (.ref pl), o7, o8, o9, o10, o11, o12], s') ∧ pa ≠ lp ∧ s'[pa]? = some (.lst es) ∧ es.length = 6 ∧ (∀ e ∈ es, ∃ ds, e = .tup ds ∧ PvL lp 7 s' ds 3600) ∧ Gw lp st s' ∧ Pot lp s' := by
  simp only [wpS, wps, wp_some, settle_r, nxt, trB, br_t, br_f, isV, List.map_cons, List.map_nil, List.cons_append, List.nil_append, List.replicate, Nat.sub_self, Nat.reduceSub, List.getElem?_cons_zero, List.getElem?_cons_succ, List.set_cons_zero, List.set_cons_succ, permute, List.mapM_cons, List.mapM_nil, Option.pure_def, Option.bind_eq_bind, Option.bind_some, List.length_cons, List.length_nil, bindTg, List.zip_cons_cons, List.zip_nil_left, List.zip_nil_right, List.foldl_cons, List.foldl_nil, PySem.sizeLine_eq, Nat.reduceAdd, Nat.reduceLeDiff, Nat.zero_le, eq_self, true_and, opsI, o_eqS, if_true, wp_comp, walkOf, hp]
  refine (wp_compG (P := fun s e => ∃ ds, e = .tup ds ∧ PvL lp 7 s ds 3600) (J := fun z => Gw lp st z ∧ Pot lp z) (R := fun a b => Gw lp a b) (fun z hz => guard1 (hz.1 _ _ ne hp)) (Gw.refl lp) (fun _ _ _ => Gw.trans) (fun _ _ _ g h => h.elim fun ds q => ⟨ds, q.1, q.2.gw g⟩) _ _ ?_ ?_ ⟨Gw.refl _ _, P⟩).mono ?_
  · rintro d hd z ⟨gz, Pz⟩
    obtain ⟨a, ma, rfl⟩ := List.mem_map.mp hd
    rw [wp_turn]
    simp only [wpS, wps, wp_some, settle_r, nxt, trB, br_t, br_f, isV, List.map_cons, List.map_nil, List.cons_append, List.nil_append, List.replicate, Nat.sub_self, Nat.reduceSub, List.getElem?_cons_zero, List.getElem?_cons_succ, List.set_cons_zero, List.set_cons_succ, permute, List.mapM_cons, List.mapM_nil, Option.pure_def, Option.bind_eq_bind, Option.bind_some, List.length_cons, List.length_nil, bindTg, List.zip_cons_cons, List.zip_nil_left, List.zip_nil_right, List.foldl_cons, List.foldl_nil, PySem.sizeLine_eq, Nat.reduceAdd, Nat.reduceLeDiff, Nat.zero_le, eq_self, true_and, opsI, o_eqS, if_true]
    refine (w_draw (k := k + 59) K.T.P Pz (many := 6) (by omega) (by omega)).mono ?_
    rintro ⟨d, z1⟩ ⟨⟨m, rfl, hm⟩, g1, P1⟩
    simp only [wpS, wps, wp_some, settle_r, nxt, trB, br_t, br_f, isV, List.map_cons, List.map_nil, List.cons_append, List.nil_append, List.replicate, Nat.sub_self, Nat.reduceSub, List.getElem?_cons_zero, List.getElem?_cons_succ, List.set_cons_zero, List.set_cons_succ, permute, List.mapM_cons, List.mapM_nil, Option.pure_def, Option.bind_eq_bind, Option.bind_some, List.length_cons, List.length_nil, bindTg, List.zip_cons_cons, List.zip_nil_left, List.zip_nil_right, List.foldl_cons, List.foldl_nil, PySem.sizeLine_eq, Nat.reduceAdd, Nat.reduceLeDiff, Nat.zero_le, eq_self, true_and, opsI, o_eqS, if_true]
    refine (w_path_of (lp := lp) (k := k + 59) K.path (m := m) (by omega) (by have := ht.dp; omega) ht.wf (ha a ma)).mono ?_
    rintro _ ⟨ds, rfl, hds⟩
    exact ⟨_, rfl, ⟨ds, rfl, hds.ups (by omega) (by omega)⟩, ⟨gz.trans g1, P1⟩, g1⟩
  · rw [List.length_map, hl]; have := line100; omega
  · rintro ⟨es, s'⟩ ⟨hle, he, ⟨g, P'⟩, _⟩
    have hl3 : lp < s'.length := by obtain ⟨a, b, e, _⟩ := P'; exact (List.getElem?_eq_some_iff.mp e).1
    simp only [wpS, wps, wp_some, settle_r, nxt, trB, br_t, br_f, isV, List.map_cons, List.map_nil, List.cons_append, List.nil_append, List.replicate, Nat.sub_self, Nat.reduceSub, List.getElem?_cons_zero, List.getElem?_cons_succ, List.set_cons_zero, List.set_cons_succ, permute, List.mapM_cons, List.mapM_nil, Option.pure_def, Option.bind_eq_bind, Option.bind_some, List.length_cons, List.length_nil, bindTg, List.zip_cons_cons, List.zip_nil_left, List.zip_nil_right, List.foldl_cons, List.foldl_nil, PySem.sizeLine_eq, Nat.reduceAdd, Nat.reduceLeDiff, Nat.zero_le, eq_self, true_and, opsI, o_eqS, if_true]
    refine ⟨s'.length, es, _, rfl, by omega, at_snoc _ _, by simpa [hl] using hle, fun e h => ?_, g.trans (Ex.snoc _ _).gw, P'.ex (Ex.snoc _ _)⟩
    obtain ⟨ds, q1, q2⟩ := he e h
    exact ⟨ds, q1, q2.gw (Ex.snoc _ _).gw⟩
theorem right_vals5 (K : K14At tab) {es : List D} {pa : Nat} {o1 o2 o4 o5 o6 o7 o8 o9 o10 o11 o12 : Option D} {st : Sto} (P : Pot lp st) (hp : st[pa]? = some (.lst es)) (ne : pa ≠ lp) (hl : es.length = 6) (he : ∀ e ∈ es, ∃ ds, e = .tup ds ∧ PvL lp 7 st ds 3600) :
    Wp (iW (evF tab (k + 60)) 0 [V5] [some (.ref lp), o1, o2, some (.ref pa), o4, o5, o6, o7, o8, o9, o10, o11, o12] st)
      fun y => ∃ vs s', y = ((vs, []), s') ∧ (∀ v ∈ vs, Pv lp 20 60000 s' v) ∧ Gw lp st s' ∧ Pot lp s' := by
  have hlp : lp < st.length := by obtain ⟨a, b, e, _⟩ := P; exact (List.getElem?_eq_some_iff.mp e).1
  have line := line100
  obtain ⟨d0, er, rfl⟩ : ∃ d0 er, es = d0 :: er := by cases es with
    | nil => cases hl
    | cons a b => exact ⟨a, b, rfl⟩
  obtain ⟨ds0, rfl, h0⟩ := he d0 (by simp)
  have i0 : op2 .idx (.val (.ref pa)) (.val (.int 0)) st = some (.val (.tup ds0), st) := o_idxL hp (at0 _ _)
  have px : Ex st (st ++ [.lst ds0]) := Ex.snoc _ _
  have ad := add_new (st := st ++ [.lst ds0]) (es := [.non, .int 0, .ref st.length]) (px _ _ hp) (by rw [hl]; simp only [List.length_cons, List.length_nil]; omega)
  have pe : ∀ s : Sto, Gw lp st s → ∀ x ∈ D.tup ds0 :: er, Pv lp 8 3600 s x := by
    intro s g x hx
    obtain ⟨ds, rfl, h⟩ := he x hx
    exact (h.tup).gw g
  have e8 : (8 : Int) = ((8 : Nat) : Int) := rfl
  simp only [wpS, wps, wp_some, settle_r, nxt, trB, br_t, br_f, isV, List.map_cons, List.map_nil, List.cons_append, List.nil_append, List.replicate, Nat.sub_self, Nat.reduceSub, List.getElem?_cons_zero, List.getElem?_cons_succ, List.set_cons_zero, List.set_cons_succ, permute, List.mapM_cons, List.mapM_nil, Option.pure_def, Option.bind_eq_bind, Option.bind_some, List.length_cons, List.length_nil, bindTg, List.zip_cons_cons, List.zip_nil_left, List.zip_nil_right, List.foldl_cons, List.foldl_nil, PySem.sizeLine_eq, Nat.reduceAdd, Nat.reduceLeDiff, Nat.zero_le, eq_self, true_and, opsI, o_eqS, if_true, i0, ad]
  rw [e8]
  refine (w_bents (k := k) K (iv := 3) (n := 8) (w := 3600) (w12 := none) rfl rfl (by omega) (P.ex px) (px _ _ hp) ne (by simp) (by omega) (pe _ px.gw) (by omega) (by omega) (by omega)).mono ?_
  rintro _ ⟨fs, s', rfl, le, pf, g, P'⟩
  have ad2 : op2 .add (.new ((D.tup ds0 :: er) ++ [.non, .int 0, .ref st.length])) (.new fs) s' = some (.new ((D.tup ds0 :: er) ++ [.non, .int 0, .ref st.length] ++ fs), s') := by
    have : ((D.tup ds0 :: er) ++ [D.non, .int 0, .ref st.length]).length + fs.length ≤ sizeLine := by
      rw [List.length_append, hl, le]
      simp only [List.length_cons, List.length_nil]
      omega
    simp only [op2, lstOf]
    rw [if_pos this]
  simp only [List.cons_append] at ad2
  simp only [ad2, wp_some, walkOf]
  refine ⟨_, s', rfl, ?_, px.gw.trans g, P'⟩
  intro v hv
  rw [← List.cons_append, ← List.cons_append] at hv
  rcases List.mem_append.mp hv with q | q
  · rcases List.mem_append.mp q with q | q
    · exact (pe s' (px.gw.trans g) v q).ups (by omega) (by omega)
    · simp only [List.mem_cons, List.not_mem_nil, or_false] at q
      rcases q with rfl | rfl | rfl
      · exact Pv.non.ups (Nat.le_refl _) (by omega)
      · exact (Pv.int (by decide)).ups (Nat.le_refl _) (by omega)
      · have r := PvL.ref (lp := lp) (n := 7) (at_snoc st (.lst ds0)) (by omega) (h0.gw px.gw)
        exact (r.gw g).ups (by omega) (by omega)
  · exact (pf v q).ups (by omega) (by omega)
theorem wp_path (K : K14At tab) {t : TL} (W : Drawn abxs t) {v : D} {st : Sto} (hv : Py st 60 v) : Wp (evF tab (k + 60) 20 [enc t, v] st) fun x => ∃ s', x = (.bl (pathB t v), s') ∧ Ex st s' := by
  obtain ⟨s', e, x⟩ := p_is_path (k := k + 39) K.A W hv
  exact .of e ⟨s', rfl, x⟩
def pieceD (t : TL) (v : D) : D := match v with
  | .tup ds => (match pathT t ds with
    | some u => enc u
    | none => .non)
  | _ => .non
theorem isn_enc {st : Sto} (u : TL) : op2 .isn (.val (enc u)) (.val .non) st = some (.val (.bl true), st) := by cases u <;> rfl
theorem isn_piece {st : Sto} (t : TL) (v : D) : op2 .isn (.val (pieceD t v)) (.val .non) st = some (.val (.bl (pathB t v)), st) := by
  cases v with
  | tup ds =>
    simp only [pieceD, pathB]
    cases pathT t ds with
    | none => rfl
    | some u => exact isn_enc u
  | _ => rfl
theorem right_value5 (K : K14At tab) {t : TL} {v : D} {o3 o4 o5 o6 o7 o8 o9 o10 o11 o12 : Option D} {st : Sto} (ht : Tm abxs 5 t) (P : Pot lp st) (hv : Pv lp 20 60000 st v) :
    Wp (exB (evF tab (k + 60)) B5 [some (.ref lp), some (enc t), some v, o3, o4, o5, o6, o7, o8, o9, o10, o11, o12] st)
      fun r => ∃ p7 s', r = (.nx, [some (.ref lp), some (enc t), some v, o3, o4, o5, o6, p7, o8, o9, o10, o11, o12], s') ∧ Gw lp st s' ∧ Pot lp s' := by
  have W := tm_drawn ht
  have v60 := hv.ups (m := 60) (z := 60000) (by omega) (Nat.le_refl _)
  have el : evF tab (k + 60) 34 [enc t, v] st = some (pieceD t v, st) := by
    have e := x_law_piece (k := k + 58) (st := st) K.step K.part K.piece ht.wf v60.py
    rw [show k + 58 + 2 = k + 60 by omega] at e
    rw [e]
    cases v <;> rfl
  refine wp_step (P := fun r => r = (.nx, [some (.ref lp), some (enc t), some v, o3, o4, o5, o6, some (.bl (pathB t v)), o8, o9, o10, o11, o12], st)) ?_ ?_
  · simp only [wpS, wps, wp_some, settle_r, nxt, trB, br_t, br_f, isV, List.map_cons, List.map_nil, List.cons_append, List.nil_append, List.replicate, Nat.sub_self, Nat.reduceSub, List.getElem?_cons_zero, List.getElem?_cons_succ, List.set_cons_zero, List.set_cons_succ, permute, List.mapM_cons, List.mapM_nil, Option.pure_def, Option.bind_eq_bind, Option.bind_some, List.length_cons, List.length_nil, bindTg, List.zip_cons_cons, List.zip_nil_left, List.zip_nil_right, List.foldl_cons, List.foldl_nil, PySem.sizeLine_eq, Nat.reduceAdd, Nat.reduceLeDiff, Nat.zero_le, eq_self, true_and, opsI, o_eqS, if_true, el, isn_piece]
  rintro _ rfl
  simp only [nxt, wpS, wps, wp_some, settle_r, nxt, trB, br_t, br_f, isV, List.map_cons, List.map_nil, List.cons_append, List.nil_append, List.replicate, Nat.sub_self, Nat.reduceSub, List.getElem?_cons_zero, List.getElem?_cons_succ, List.set_cons_zero, List.set_cons_succ, permute, List.mapM_cons, List.mapM_nil, Option.pure_def, Option.bind_eq_bind, Option.bind_some, List.length_cons, List.length_nil, bindTg, List.zip_cons_cons, List.zip_nil_left, List.zip_nil_right, List.foldl_cons, List.foldl_nil, PySem.sizeLine_eq, Nat.reduceAdd, Nat.reduceLeDiff, Nat.zero_le, eq_self, true_and, opsI, o_eqS, if_true]
  refine (wp_path K W v60.py).mono ?_
  rintro _ ⟨s1, rfl, x1⟩
  simp only [wpS, wps, wp_some, settle_r, nxt, trB, br_t, br_f, isV, List.map_cons, List.map_nil, List.cons_append, List.nil_append, List.replicate, Nat.sub_self, Nat.reduceSub, List.getElem?_cons_zero, List.getElem?_cons_succ, List.set_cons_zero, List.set_cons_succ, permute, List.mapM_cons, List.mapM_nil, Option.pure_def, Option.bind_eq_bind, Option.bind_some, List.length_cons, List.length_nil, bindTg, List.zip_cons_cons, List.zip_nil_left, List.zip_nil_right, List.foldl_cons, List.foldl_nil, PySem.sizeLine_eq, Nat.reduceAdd, Nat.reduceLeDiff, Nat.zero_le, eq_self, true_and, opsI, o_eqS, if_true]
  refine (wp_path K W (v60.gw x1.gw).py).mono ?_
  rintro _ ⟨s2, rfl, x2⟩
  simp only [wpS, wps, wp_some, settle_r, nxt, trB, br_t, br_f, isV, List.map_cons, List.map_nil, List.cons_append, List.nil_append, List.replicate, Nat.sub_self, Nat.reduceSub, List.getElem?_cons_zero, List.getElem?_cons_succ, List.set_cons_zero, List.set_cons_succ, permute, List.mapM_cons, List.mapM_nil, Option.pure_def, Option.bind_eq_bind, Option.bind_some, List.length_cons, List.length_nil, bindTg, List.zip_cons_cons, List.zip_nil_left, List.zip_nil_right, List.foldl_cons, List.foldl_nil, PySem.sizeLine_eq, Nat.reduceAdd, Nat.reduceLeDiff, Nat.zero_le, eq_self, true_and, opsI, o_eqS, if_true, rep_two, ne_self]
  exact ⟨_, s2, rfl, (x1.trans x2).gw, P.ex (x1.trans x2)⟩
theorem right_five (K : K14At tab) {t : TL} {es : List D} {pa : Nat} {o2 o4 o5 o6 o7 o8 o9 o10 o11 o12 : Option D} {st : Sto} (ht : Tm abxs 5 t) (P : Pot lp st) (hp : st[pa]? = some (.lst es)) (ne : pa ≠ lp) (hl : es.length = 6) (he : ∀ e ∈ es, ∃ ds, e = .tup ds ∧ PvL lp 7 st ds 3600) :
    Wp (exS (evF tab (k + 60)) (.for_ 0 [V5] (.n 2) B5) [some (.ref lp), some (enc t), o2, some (.ref pa), o4, o5, o6, o7, o8, o9, o10, o11, o12] st)
      fun r => ∃ p2 p7 s', r = (.nx, [some (.ref lp), some (enc t), p2, some (.ref pa), o4, o5, o6, p7, o8, o9, o10, o11, o12], s') ∧ Gw lp st s' ∧ Pot lp s' := by
  rw [wp_for]
  refine (right_vals5 K P hp ne hl he).mono ?_
  rintro _ ⟨vs, s1, rfl, hvs, g1, P1⟩
  simp only
  refine wp_forLoop (fun r ρ s => ∃ p2 p7, ρ = [some (.ref lp), some (enc t), p2, some (.ref pa), o4, o5, o6, p7, o8, o9, o10, o11, o12] ∧ Gw lp s1 s ∧ Pot lp s ∧ ∀ v ∈ r, Pv lp 20 60000 s1 v) (fun _ _ _ _ => rfl) ?_ ?_ _ _ _ ⟨o2, o7, rfl, Gw.refl _ _, P1, hvs⟩
  · rintro d r ρ s ⟨p2, p7, rfl, g, Ps, hr⟩
    simp only [bindTg, List.set_cons_zero, List.set_cons_succ]
    refine (right_value5 K ht Ps ((hr d (by simp)).gw g)).mono ?_
    rintro _ ⟨q7, s', rfl, g', P'⟩
    exact ⟨_, _, rfl, g.trans g', P', fun v hv => hr v (by simp [hv])⟩
  · rintro ρ s ⟨p2, p7, rfl, g, Ps, hr⟩
    exact ⟨p2, p7, s, rfl, g1.trans g, Ps⟩
theorem wp_ahead (K : K14At tab) {t : TL} (W : Drawn abxs t) {a b : AD} {st : Sto} (ha : Ok t a) (hb : Ok t b) : Wp (evF tab (k + 60) 22 [enc t, encA a, encA b] st) fun x => ∃ s', x = (.bl (aheadN 18 t a b), s') ∧ Ex st s' := by
  obtain ⟨s', e, x⟩ := p_is_ahead (k := k + 38) (st := st) K.A W ha hb
  exact .of e ⟨s', rfl, x⟩
theorem right_two_places (K : K14At tab) {t : TL} {a b : AD} {o2 o3 o5 o6 o7 o9 o10 o11 o12 : Option D} {st : Sto} (ht : Tm abxs 5 t) (ha : Ok t a) (hb : Ok t b) :
    Wp (exB (evF tab (k + 60)) B6 [some (.ref lp), some (enc t), o2, o3, some (encA a), o5, o6, o7, some (encA b), o9, o10, o11, o12] st)
      fun r => ∃ p7 s', r = (.nx, [some (.ref lp), some (enc t), o2, o3, some (encA a), o5, o6, p7, some (encA b), o9, o10, o11, o12], s') ∧ Ex st s' := by
  have W := tm_drawn ht
  have hd := ht.dp
  have e1 : ∀ s, evF tab (k + 60) 31 [enc t, encA a, encA b] s = some (.bl (aheadN 18 t a b), s) := fun s => x_law_is_ahead (k := k + 58) (st := s) K.lies K.ahead (by omega) ht.wf ha hb
  have e2 : ∀ s, evF tab (k + 60) 31 [enc t, encA b, encA a] s = some (.bl (aheadN 18 t b a), s) := fun s => x_law_is_ahead (k := k + 58) (st := s) K.lies K.ahead (by omega) ht.wf hb ha
  have la := ok_len ha
  have lb := ok_len hb
  have np : ∀ s, op2 .ne (.val (encA a)) (.val (encA b)) s = some (.val (.bl (!decide (a = b))), s) := fun s => ne_place (by omega) (by omega)
  refine wp_step (P := fun r => r = (.nx, [some (.ref lp), some (enc t), o2, o3, some (encA a), o5, o6, some (.bl (aheadN 18 t a b)), some (encA b), o9, o10, o11, o12], st)) ?_ ?_
  · simp only [wpS, wps, wp_some, settle_r, nxt, trB, br_t, br_f, isV, List.map_cons, List.map_nil, List.cons_append, List.nil_append, List.replicate, Nat.sub_self, Nat.reduceSub, List.getElem?_cons_zero, List.getElem?_cons_succ, List.set_cons_zero, List.set_cons_succ, permute, List.mapM_cons, List.mapM_nil, Option.pure_def, Option.bind_eq_bind, Option.bind_some, List.length_cons, List.length_nil, bindTg, List.zip_cons_cons, List.zip_nil_left, List.zip_nil_right, List.foldl_cons, List.foldl_nil, PySem.sizeLine_eq, Nat.reduceAdd, Nat.reduceLeDiff, Nat.zero_le, eq_self, true_and, opsI, o_eqS, if_true, e1]
  rintro _ rfl
  simp only [nxt]
  refine wp_step (P := fun r => ∃ s', r = (.nx, [some (.ref lp), some (enc t), o2, o3, some (encA a), o5, o6, some (.bl (aheadN 18 t a b)), some (encA b), o9, o10, o11, o12], s') ∧ Ex st s') ?_ ?_
  · simp only [wpS, wps, wp_some, settle_r, nxt, trB, br_t, br_f, isV, List.map_cons, List.map_nil, List.cons_append, List.nil_append, List.replicate, Nat.sub_self, Nat.reduceSub, List.getElem?_cons_zero, List.getElem?_cons_succ, List.set_cons_zero, List.set_cons_succ, permute, List.mapM_cons, List.mapM_nil, Option.pure_def, Option.bind_eq_bind, Option.bind_some, List.length_cons, List.length_nil, bindTg, List.zip_cons_cons, List.zip_nil_left, List.zip_nil_right, List.foldl_cons, List.foldl_nil, PySem.sizeLine_eq, Nat.reduceAdd, Nat.reduceLeDiff, Nat.zero_le, eq_self, true_and, opsI, o_eqS, if_true]
    refine (wp_ahead K W ha hb).mono ?_
    rintro _ ⟨s1, rfl, x1⟩
    simp only [wpS, wps, wp_some, settle_r, nxt, trB, br_t, br_f, isV, List.map_cons, List.map_nil, List.cons_append, List.nil_append, List.replicate, Nat.sub_self, Nat.reduceSub, List.getElem?_cons_zero, List.getElem?_cons_succ, List.set_cons_zero, List.set_cons_succ, permute, List.mapM_cons, List.mapM_nil, Option.pure_def, Option.bind_eq_bind, Option.bind_some, List.length_cons, List.length_nil, bindTg, List.zip_cons_cons, List.zip_nil_left, List.zip_nil_right, List.foldl_cons, List.foldl_nil, PySem.sizeLine_eq, Nat.reduceAdd, Nat.reduceLeDiff, Nat.zero_le, eq_self, true_and, opsI, o_eqS, if_true]
    refine (wp_ahead K W ha hb).mono ?_
    rintro _ ⟨s2, rfl, x2⟩
    simp only [wpS, wps, wp_some, settle_r, nxt, trB, br_t, br_f, isV, List.map_cons, List.map_nil, List.cons_append, List.nil_append, List.replicate, Nat.sub_self, Nat.reduceSub, List.getElem?_cons_zero, List.getElem?_cons_succ, List.set_cons_zero, List.set_cons_succ, permute, List.mapM_cons, List.mapM_nil, Option.pure_def, Option.bind_eq_bind, Option.bind_some, List.length_cons, List.length_nil, bindTg, List.zip_cons_cons, List.zip_nil_left, List.zip_nil_right, List.foldl_cons, List.foldl_nil, PySem.sizeLine_eq, Nat.reduceAdd, Nat.reduceLeDiff, Nat.zero_le, eq_self, true_and, opsI, o_eqS, if_true, rep_two, ne_self]
    exact ⟨s2, rfl, x1.trans x2⟩
  rintro _ ⟨s1, rfl, x1⟩
  simp only [nxt]
  by_cases hab : a = b
  · have q : (!decide (a = b)) = false := by simp [hab]
    simp only [wpS, wps, wp_some, settle_r, nxt, trB, br_t, br_f, isV, List.map_cons, List.map_nil, List.cons_append, List.nil_append, List.replicate, Nat.sub_self, Nat.reduceSub, List.getElem?_cons_zero, List.getElem?_cons_succ, List.set_cons_zero, List.set_cons_succ, permute, List.mapM_cons, List.mapM_nil, Option.pure_def, Option.bind_eq_bind, Option.bind_some, List.length_cons, List.length_nil, bindTg, List.zip_cons_cons, List.zip_nil_left, List.zip_nil_right, List.foldl_cons, List.foldl_nil, PySem.sizeLine_eq, Nat.reduceAdd, Nat.reduceLeDiff, Nat.zero_le, eq_self, true_and, opsI, o_eqS, if_true, np, q]
    exact ⟨_, s1, rfl, x1⟩
  · have q : (!decide (a = b)) = true := by simp [hab]
    have q2 : (aheadN 18 t a b == aheadN 18 t b a) = false := by
      rw [ahead_asym 18 t a b (by omega) ha hb hab]
      cases aheadN 18 t b a <;> rfl
    simp only [wpS, wps, wp_some, settle_r, nxt, trB, br_t, br_f, isV, List.map_cons, List.map_nil, List.cons_append, List.nil_append, List.replicate, Nat.sub_self, Nat.reduceSub, List.getElem?_cons_zero, List.getElem?_cons_succ, List.set_cons_zero, List.set_cons_succ, permute, List.mapM_cons, List.mapM_nil, Option.pure_def, Option.bind_eq_bind, Option.bind_some, List.length_cons, List.length_nil, bindTg, List.zip_cons_cons, List.zip_nil_left, List.zip_nil_right, List.foldl_cons, List.foldl_nil, PySem.sizeLine_eq, Nat.reduceAdd, Nat.reduceLeDiff, Nat.zero_le, eq_self, true_and, opsI, o_eqS, if_true, np, q, e2, o_eqB, q2]
    exact ⟨_, s1, rfl, x1⟩
theorem right_six (K : K14At tab) {t : TL} {as : List AD} {pl : Nat} {o2 o3 o4 o5 o7 o8 o9 o10 o11 o12 : Option D} {st : Sto} (ht : Tm abxs 5 t) (ha : ∀ a ∈ as, Ok t a) (hp : st[pl]? = some (.lst (as.map encA))) :
    Wp (exS (evF tab (k + 60)) (.for_ 0 [(.v 6)] (.n 4) [.for_ 0 [(.v 6)] (.n 8) B6]) [some (.ref lp), some (enc t), o2, o3, o4, o5, some (.ref pl), o7, o8, o9, o10, o11, o12] st)
      fun r => ∃ p4 p7 p8 s', r = (.nx, [some (.ref lp), some (enc t), o2, o3, p4, o5, some (.ref pl), p7, p8, o9, o10, o11, o12], s') ∧ Ex st s' := by
  rw [wp_for]
  simp only [wpS, wps, wp_some, settle_r, nxt, trB, br_t, br_f, isV, List.map_cons, List.map_nil, List.cons_append, List.nil_append, List.replicate, Nat.sub_self, Nat.reduceSub, List.getElem?_cons_zero, List.getElem?_cons_succ, List.set_cons_zero, List.set_cons_succ, permute, List.mapM_cons, List.mapM_nil, Option.pure_def, Option.bind_eq_bind, Option.bind_some, List.length_cons, List.length_nil, bindTg, List.zip_cons_cons, List.zip_nil_left, List.zip_nil_right, List.foldl_cons, List.foldl_nil, PySem.sizeLine_eq, Nat.reduceAdd, Nat.reduceLeDiff, Nat.zero_le, eq_self, true_and, opsI, o_eqS, if_true, walkOf, hp]
  refine wp_forLoop (fun r ρ s => ∃ p4 p7 p8, ρ = [some (.ref lp), some (enc t), o2, o3, p4, o5, some (.ref pl), p7, p8, o9, o10, o11, o12] ∧ Ex st s ∧ ∀ e ∈ r, e ∈ as.map encA) (fun r ρ s h => guard1 (h.elim fun _ h => h.elim fun _ h => h.elim fun _ h => h.2.1 _ _ hp)) ?_ ?_ _ _ _ ⟨o4, o7, o8, rfl, Ex.refl _, fun _ h => h⟩
  · rintro d r ρ s ⟨p4, p7, p8, rfl, x, hr⟩
    obtain ⟨a, ma, rfl⟩ := List.mem_map.mp (hr d (by simp))
    simp only [bindTg, List.set_cons_zero, List.set_cons_succ]
    rw [wp_b1, wp_for]
    simp only [wpS, wps, wp_some, settle_r, nxt, trB, br_t, br_f, isV, List.map_cons, List.map_nil, List.cons_append, List.nil_append, List.replicate, Nat.sub_self, Nat.reduceSub, List.getElem?_cons_zero, List.getElem?_cons_succ, List.set_cons_zero, List.set_cons_succ, permute, List.mapM_cons, List.mapM_nil, Option.pure_def, Option.bind_eq_bind, Option.bind_some, List.length_cons, List.length_nil, bindTg, List.zip_cons_cons, List.zip_nil_left, List.zip_nil_right, List.foldl_cons, List.foldl_nil, PySem.sizeLine_eq, Nat.reduceAdd, Nat.reduceLeDiff, Nat.zero_le, eq_self, true_and, opsI, o_eqS, if_true, walkOf, x _ _ hp]
    refine wp_forLoop (fun r2 ρ s2 => ∃ p7 p8, ρ = [some (.ref lp), some (enc t), o2, o3, some (encA a), o5, some (.ref pl), p7, p8, o9, o10, o11, o12] ∧ Ex s s2 ∧ ∀ e ∈ r2, e ∈ as.map encA) (fun r2 ρ s2 h => guard1 (h.elim fun _ h => h.elim fun _ h => h.2.1 _ _ (x _ _ hp))) ?_ ?_ _ _ _ ⟨p7, p8, rfl, Ex.refl _, fun _ h => h⟩
    · rintro d r2 ρ s2 ⟨p7, p8, rfl, x2, hr2⟩
      obtain ⟨b, mb, rfl⟩ := List.mem_map.mp (hr2 d (by simp))
      simp only [bindTg, List.set_cons_zero, List.set_cons_succ]
      refine (right_two_places K ht (ha a ma) (ha b mb)).mono ?_
      rintro _ ⟨q7, s3, rfl, x3⟩
      exact ⟨_, _, rfl, x2.trans x3, fun e he => hr2 e (by simp [he])⟩
    · rintro ρ s2 ⟨p7, p8, rfl, x2, hr2⟩
      simp only [wpS, wps, wp_some, settle_r, nxt, trB, br_t, br_f, isV, List.map_cons, List.map_nil, List.cons_append, List.nil_append, List.replicate, Nat.sub_self, Nat.reduceSub, List.getElem?_cons_zero, List.getElem?_cons_succ, List.set_cons_zero, List.set_cons_succ, permute, List.mapM_cons, List.mapM_nil, Option.pure_def, Option.bind_eq_bind, Option.bind_some, List.length_cons, List.length_nil, bindTg, List.zip_cons_cons, List.zip_nil_left, List.zip_nil_right, List.foldl_cons, List.foldl_nil, PySem.sizeLine_eq, Nat.reduceAdd, Nat.reduceLeDiff, Nat.zero_le, eq_self, true_and, opsI, o_eqS, if_true]
      exact ⟨_, _, _, rfl, x.trans x2, fun e he => hr e (by simp [he])⟩
  · rintro ρ s ⟨p4, p7, p8, rfl, x, hr⟩
    exact ⟨p4, p7, p8, s, rfl, x⟩
theorem w_right (K : K14At tab) {st : Sto} (P : Pot lp st) : Wp (evF tab (k + 61) 38 [.ref lp] st) fun x => x.1 = .bl true := by
  rw [show k + 61 = k + 60 + 1 by omega, wp_fn K.right rfl]
  show Wp (exB (evF tab (k + 60)) B_right [some (.ref lp), none, none, none, none, none, none, none, none, none, none, none, none] st) _
  unfold B_right
  refine wp_step (right_one K P) ?_
  rintro _ ⟨t, s1, rfl, ht, g1, P1⟩
  simp only [nxt]
  refine wp_step (right_two K ht P1) ?_
  rintro _ ⟨sh, as, pl, s2, rfl, ne, hp, hl, ha, hsh, g2, P2⟩
  simp only [nxt]
  refine wp_step (right_three K ht ha hl P2 hp ne) ?_
  rintro _ ⟨p2, p9, p10, s3, rfl, g3, P3⟩
  simp only [nxt]
  refine wp_step (right_four K ht ha hl P3 (g3 _ _ ne hp) ne) ?_
  rintro _ ⟨pa, es, s4, rfl, ne4, hpa, hle, he, g4, P4⟩
  simp only [nxt]
  refine wp_step (right_five K ht P4 hpa ne4 hle he) ?_
  rintro _ ⟨q2, q7, s5, rfl, g5, P5⟩
  simp only [nxt]
  have g25 := (g3.trans g4).trans g5
  refine wp_step (right_six K ht ha (g25 _ _ ne hp)) ?_
  rintro _ ⟨r4, r7, r8, s6, rfl, x6⟩
  simp only [wpS, wps, wp_some, settle_r, nxt, trB, br_t, br_f, isV, List.map_cons, List.map_nil, List.cons_append, List.nil_append, List.replicate, Nat.sub_self, Nat.reduceSub, List.getElem?_cons_zero, List.getElem?_cons_succ, List.set_cons_zero, List.set_cons_succ, permute, List.mapM_cons, List.mapM_nil, Option.pure_def, Option.bind_eq_bind, Option.bind_some, List.length_cons, List.length_nil, bindTg, List.zip_cons_cons, List.zip_nil_left, List.zip_nil_right, List.foldl_cons, List.foldl_nil, PySem.sizeLine_eq, Nat.reduceAdd, Nat.reduceLeDiff, Nat.zero_le, eq_self, true_and, opsI, o_eqS, if_true, hsh s6 (g25.trans x6.gw), decide_true]
end
end Px

end

section
set_option maxHeartbeats 2000000
/-! Px37: a law that asks the same of three pots. -/
namespace Px
open Nx
open PySem (PyData sizeLine)
theorem bools_true : ∀ {es : List D}, (∀ e ∈ es, e = .bl true) → ∃ bs : List Bool, boolsOf es = some bs ∧ bs.all id = true
  | [], _ => ⟨[], rfl, rfl⟩
  | e :: r, h => by
    obtain ⟨bs, h1, h2⟩ := bools_true fun e he => h e (List.mem_cons_of_mem _ he)
    have := h e (by simp)
    subst this
    exact ⟨true :: bs, by simp [boolsOf, h1], by simp [h2]⟩
abbrev B_law3 (i_right i_pot : Nat) : List Nx.S := [.ret (.p1 .all (.comp 3 [(.k (.int 3))] (.n 1) (.k (.bl true)) (.call i_right [(.call i_pot [(.v 0), (.v 1)] [0, 1])] [0])))]
theorem w_law3 {tab : Nat → Option Fn} {k ir ip il : Nat} {e1 n0 m1 c1 n1 m2 : Int} {ns : List Int} (h : tab il = some ⟨1, 2, B_law3 ir ip⟩) (hp : tab ip = some ⟨2, 3, B_law_pot e1 n0 m1 c1 n1 m2⟩) (N : PotNums e1 n0 m1 c1 n1 m2)
    (hr : ∀ (lp : Nat) (st : Sto), Pot lp st → Wp (evF tab (k + 1) ir [.ref lp] st) fun x => x.1 = .bl true) :
    Wp (evF tab (k + 2) il [.lis (ns.map .int)] []) fun x => x.1 = .bl true := by
  rw [wp_fn h rfl]
  simp only [wpS, wps, wp_some, settle_r, nxt, trB, br_t, br_f, isV, List.map_cons, List.map_nil, List.cons_append, List.nil_append, List.replicate, Nat.sub_self, Nat.reduceSub, List.getElem?_cons_zero, List.getElem?_cons_succ, List.set_cons_zero, List.set_cons_succ, permute, List.mapM_cons, List.mapM_nil, Option.pure_def, Option.bind_eq_bind, Option.bind_some, List.length_cons, List.length_nil, bindTg, List.zip_cons_cons, List.zip_nil_left, List.zip_nil_right, List.foldl_cons, List.foldl_nil, PySem.sizeLine_eq, Nat.reduceAdd, Nat.reduceLeDiff, Nat.zero_le, eq_self, true_and, opsI, o_eqS, if_true, wp_comp, walk_range1 (show (3 : Int) < 1000000 by omega) (show (-1000000 : Int) < 3 by omega)]
  refine (wp_compAll (P := fun e => e = .bl true) (J := fun _ => True) (fun _ _ => rfl) _ _ ?_ (by decide) trivial).mono ?_
  · rintro d hd z _
    obtain ⟨i, hi, rfl⟩ : ∃ i : Nat, i < 3 ∧ d = .int (i : Nat) := by
      have : rangeD 0 3 = [.int ((0 : Nat) : Int), .int ((1 : Nat) : Int), .int ((2 : Nat) : Int)] := rfl
      rw [this] at hd
      simp only [List.mem_cons, List.not_mem_nil, or_false] at hd
      rcases hd with rfl | rfl | rfl
      · exact ⟨0, by omega, rfl⟩
      · exact ⟨1, by omega, rfl⟩
      · exact ⟨2, by omega, rfl⟩
    rw [wp_turn]
    obtain ⟨a, b, e, ha, hb, hb2⟩ := x_pot (k := k) (st := z) (ns := ns) (i := i) hp N (by omega)
    simp only [wpS, wps, wp_some, settle_r, nxt, trB, br_t, br_f, isV, List.map_cons, List.map_nil, List.cons_append, List.nil_append, List.replicate, Nat.sub_self, Nat.reduceSub, List.getElem?_cons_zero, List.getElem?_cons_succ, List.set_cons_zero, List.set_cons_succ, permute, List.mapM_cons, List.mapM_nil, Option.pure_def, Option.bind_eq_bind, Option.bind_some, List.length_cons, List.length_nil, bindTg, List.zip_cons_cons, List.zip_nil_left, List.zip_nil_right, List.foldl_cons, List.foldl_nil, PySem.sizeLine_eq, Nat.reduceAdd, Nat.reduceLeDiff, Nat.zero_le, eq_self, true_and, opsI, o_eqS, if_true, e]
    refine (hr z.length _ ⟨a, b, at_snoc _ _, ha, hb, hb2⟩).mono ?_
    rintro ⟨d, z2⟩ rfl
    exact ⟨_, rfl, rfl, trivial⟩
  · rintro ⟨es, s⟩ ⟨_, he, _⟩
    obtain ⟨bs, h1, h2⟩ := bools_true he
    have al : op1 .all (.new es) s = some (.val (.bl true), s) := by simp [op1, listOf, h1, h2, vB, vD]
    simp only [wpS, wps, wp_some, settle_r, nxt, trB, br_t, br_f, isV, List.map_cons, List.map_nil, List.cons_append, List.nil_append, List.replicate, Nat.sub_self, Nat.reduceSub, List.getElem?_cons_zero, List.getElem?_cons_succ, List.set_cons_zero, List.set_cons_succ, permute, List.mapM_cons, List.mapM_nil, Option.pure_def, Option.bind_eq_bind, Option.bind_some, List.length_cons, List.length_nil, bindTg, List.zip_cons_cons, List.zip_nil_left, List.zip_nil_right, List.foldl_cons, List.foldl_nil, PySem.sizeLine_eq, Nat.reduceAdd, Nat.reduceLeDiff, Nat.zero_le, eq_self, true_and, opsI, o_eqS, if_true, al]
end Px

end

set_option maxHeartbeats 0
namespace K14
open PySem PySem.Spec PyProof.Rows L2 Nx
def top (i : Nat) : Stmt := PySem.Challenge.pw_nextless_k14_any_value_as_address_ahead.main.body.getD i (.Pass ⟨0, 0, 0, 0⟩)
def blt : List Str := ["abs", "all", "any", "bool", "divmod", "int", "isinstance", "len", "list", "max", "range", "repr", "str", "tuple", "zip"]
def cons : List (Str × D) := [("ALPHABET", (.str "abcdefghijklmnopqrstuvwxyz")), ("ROW", (.str "row")), ("ON", (.str "on")), ("FROM", (.str "from")), ("MIX", (.str "mix")), ("MOST_SIZE", (.int 100)), ("MOST_DEPTH", (.int 16)), ("MOST_LETTERS", (.int 8)), ("MOST_NUMBER", (.int 1000000000000000000000000000000)), ("MOST_NODE", (.int 100))]
def con (x : Str) : Option D := cons.lookup x
/-- is_integer(value) -/
def b0 : List S := [.ret (.and (.p1 (.isT "int") (.v 0)) (.p1 .not (.p1 (.isT "bool") (.v 0))))]
def d0 : DefE := ⟨"is_integer", top 1, ["value"], ["value"], b0⟩
/-- is_within(value, least, most) -/
def b1 : List S := [.ret (.and (.call 0 [(.v 0)] [0]) (.chain .le .le (.v 1) (.v 0) (.v 2)))]
def d1 : DefE := ⟨"is_within", top 2, ["value", "least", "most"], ["value", "least", "most"], b1⟩
/-- is_tuple(value, many) -/
def b2 : List S := [.ret (.and (.p1 (.isT "tuple") (.v 0)) (.p2 .eq (.p1 .len (.v 0)) (.v 1)))]
def d2 : DefE := ⟨"is_tuple", top 3, ["value", "many"], ["value", "many"], b2⟩
/-- is_small(value, least, most) -/
def b3 : List S := [.ret (.and (.p1 (.isT "str") (.v 0)) (.and (.chain .le .le (.v 1) (.p1 .len (.v 0)) (.v 2)) (.p1 .all (.comp 0 [(.v 0)] (.n 3) (.k (.bl true)) (.p2 .inn (.v 3) (.k (.str "abcdefghijklmnopqrstuvwxyz")))))))]
def d3 : DefE := ⟨"is_small", top 18, ["value", "least", "most"], ["value", "least", "most", "sign"], b3⟩
/-- is_letter_value(value) -/
def b4 : List S := [.ret (.call 3 [(.v 0), (.k (.int 1)), (.k (.int 1))] [0, 1, 2])]
def d4 : DefE := ⟨"is_letter_value", top 19, ["value"], ["value"], b4⟩
/-- are_parts(value, least) -/
def b5 : List S := [.ret (.and (.p1 (.isT "tuple") (.v 0)) (.chain .le .le (.v 1) (.p1 .len (.v 0)) (.k (.int 100))))]
def d5 : DefE := ⟨"are_parts", top 20, ["value", "least"], ["value", "least"], b5⟩
/-- measures(value, deep) -/
def b6 : List S := [.ite (.call 4 [(.v 0)] [0]) [.ret (.tup [(.k (.int 1)), (.k (.int 1)), (.dict [(.v 0), (.k (.bl true))])])] [], .ite (.or (.p2 .lt (.v 1) (.k (.int 2))) (.or (.p1 .not (.call 2 [(.v 0), (.k (.int 2))] [0, 1])) (.p1 .not (.p1 (.isT "str") (.p2 .idx (.v 0) (.k (.int 0))))))) [.ret (.k .non)] [], .asgT [3, 4] (.v 0), .ite (.p2 .inn (.v 3) (.tup [(.k (.str "on")), (.k (.str "from"))])) [.asg 5 (.call 6 [(.v 4), (.p2 .sub (.v 1) (.k (.int 1)))] [0, 1]), .ret (.ite (.p2 .isn (.v 5) (.k .non)) (.tup [(.p2 .add (.p2 .idx (.v 5) (.k (.int 0))) (.k (.int 1))), (.p2 .add (.p2 .idx (.v 5) (.k (.int 1))) (.k (.int 1))), (.p2 .idx (.v 5) (.k (.int 2)))]) (.k .non))] [], .ite (.or (.p2 .nin (.v 3) (.tup [(.k (.str "row")), (.k (.str "mix"))])) (.p1 .not (.call 5 [(.v 4), (.ite (.p2 .eq (.v 3) (.k (.str "row"))) (.k (.int 2)) (.k (.int 1)))] [0, 1]))) [.ret (.k .non)] [], .ite (.and (.p2 .eq (.v 3) (.k (.str "row"))) (.p1 .any (.comp 0 [(.v 4)] (.n 2) (.k (.bl true)) (.and (.call 2 [(.v 2), (.k (.int 2))] [0, 1]) (.and (.p1 (.isT "str") (.p2 .idx (.v 2) (.k (.int 0)))) (.p2 .eq (.p2 .idx (.v 2) (.k (.int 0))) (.k (.str "row")))))))) [.ret (.k .non)] [], .asgP [6, 7, 8] [(.ite (.p2 .eq (.v 3) (.k (.str "row"))) (.k (.int 0)) (.k (.int 1))), (.k (.int 0)), (.dict [])], .for_ 0 [(.v 4)] (.n 2) [.asg 5 (.call 6 [(.v 2), (.p2 .sub (.v 1) (.k (.int 1)))] [0, 1]), .ite (.p2 .is (.v 5) (.k .non)) [.ret (.k .non)] [], .asgP [6, 7] [(.p2 .add (.v 6) (.p2 .idx (.v 5) (.k (.int 0)))), (.p2 .max2 (.v 7) (.p2 .idx (.v 5) (.k (.int 1))))], .ex (.m1 .d .update (.v 8) (.p2 .idx (.v 5) (.k (.int 2)))), .ite (.p2 .gt (.v 6) (.k (.int 100))) [.ret (.k .non)] []], .ret (.tup [(.v 6), (.p2 .add (.v 7) (.k (.int 1))), (.v 8)])]
def d6 : DefE := ⟨"measures", top 21, ["value", "deep"], ["value", "deep", "one", "word", "told", "inner", "size", "depth", "letters"], b6⟩
/-- is_timeline_value(value) -/
def b7 : List S := [.asg 1 (.call 6 [(.v 0), (.k (.int 16))] [0, 1]), .ret (.and (.p2 .isn (.v 1) (.k .non)) (.and (.p2 .le (.p2 .idx (.v 1) (.k (.int 0))) (.k (.int 100))) (.p2 .le (.p1 .len (.p2 .idx (.v 1) (.k (.int 2)))) (.k (.int 8)))))]
def d7 : DefE := ⟨"is_timeline_value", top 22, ["value"], ["value", "told"], b7⟩
/-- want_timeline(timeline) -/
def b8 : List S := [.ite (.p1 .not (.call 7 [(.v 0)] [0])) [.stuck] []]
def d8 : DefE := ⟨"want_timeline", top 23, ["timeline"], ["timeline"], b8⟩
/-- is_node(value) -/
def b9 : List S := [.ret (.and (.p1 (.isT "tuple") (.v 0)) (.and (.p2 .le (.p1 .len (.v 0)) (.k (.int 100))) (.p1 .all (.comp 0 [(.v 0)] (.n 1) (.k (.bl true)) (.call 1 [(.v 1), (.k (.int 0)), (.k (.int 1))] [0, 1, 2])))))]
def d9 : DefE := ⟨"is_node", top 27, ["value"], ["value", "one"], b9⟩
/-- is_step(timeline, value) -/
def b10 : List S := [.asgT [2, 3] (.v 0), .ite (.p2 .eq (.v 2) (.k (.str "row"))) [.ret (.call 1 [(.v 1), (.k (.int 0)), (.p2 .sub (.p1 .len (.v 3)) (.k (.int 1)))] [0, 1, 2])] [], .ret (.ite (.p2 .eq (.v 2) (.k (.str "mix"))) (.call 9 [(.v 1)] [0]) (.call 1 [(.v 1), (.k (.int 0)), (.p2 .sub (.k (.int 1000000000000000000000000000000)) (.k (.int 1)))] [0, 1, 2]))]
def d10 : DefE := ⟨"is_step", top 28, ["timeline", "value"], ["timeline", "value", "word", "told"], b10⟩
/-- inner(timeline, step) -/
def b11 : List S := [.asgT [2, 3] (.v 0), .ite (.p2 .inn (.v 2) (.tup [(.k (.str "on")), (.k (.str "from"))])) [.ret (.v 3)] [], .ret (.ite (.p2 .eq (.v 2) (.k (.str "row"))) (.p2 .idx (.v 3) (.v 1)) (.p2 .idx (.v 3) (.p2 .mod (.p1 .len (.v 1)) (.p1 .len (.v 3)))))]
def d11 : DefE := ⟨"inner", top 29, ["timeline", "step"], ["timeline", "step", "word", "told"], b11⟩
/-- is_path_value(timeline, value) -/
def b12 : List S := [.ite (.p1 .not (.p1 (.isT "tuple") (.v 1))) [.ret (.k (.bl false))] [], .for_ 0 [(.v 1)] (.n 2) [.ite (.or (.p1 (.isT "str") (.v 0)) (.p1 .not (.call 10 [(.v 0), (.v 2)] [0, 1]))) [.ret (.k (.bl false))] [], .asg 0 (.call 11 [(.v 0), (.v 2)] [0, 1])], .ret (.k (.bl true))]
def d12 : DefE := ⟨"is_path_value", top 30, ["timeline", "value"], ["timeline", "value", "step"], b12⟩
/-- is_address_value(timeline, value) -/
def b13 : List S := [.ite (.p1 (.isT "str") (.v 0)) [.ret (.and (.p2 .eq (.v 1) (.tup [])) (.p1 (.isT "tuple") (.v 1)))] [], .ite (.or (.p1 .not (.call 2 [(.v 1), (.k (.int 2))] [0, 1])) (.p1 .not (.call 10 [(.v 0), (.p2 .idx (.v 1) (.k (.int 0)))] [0, 1]))) [.ret (.k (.bl false))] [], .ret (.call 13 [(.call 11 [(.v 0), (.p2 .idx (.v 1) (.k (.int 0)))] [0, 1]), (.p2 .idx (.v 1) (.k (.int 1)))] [0, 1])]
def d13 : DefE := ⟨"is_address_value", top 31, ["timeline", "value"], ["timeline", "value"], b13⟩
/-- letter_by(timeline, address) -/
def b14 : List S := [.wh (.p1 .not (.p1 (.isT "str") (.v 0))) [.asgP [0, 1] [(.call 11 [(.v 0), (.p2 .idx (.v 1) (.k (.int 0)))] [0, 1]), (.p2 .idx (.v 1) (.k (.int 1)))]], .ret (.v 0)]
def d14 : DefE := ⟨"letter_by", top 32, ["timeline", "address"], ["timeline", "address"], b14⟩
/-- is_node_ahead(one, other) -/
def b15 : List S := [.for_ 1 [(.v 0), (.v 1)] (.t [2, 3]) [.ite (.p2 .ne (.v 2) (.v 3)) [.ret (.p2 .eq (.v 2) (.k (.int 0)))] []], .ret (.ite (.p2 .gt (.p1 .len (.v 0)) (.p1 .len (.v 1))) (.p2 .eq (.p2 .idx (.v 0) (.p1 .len (.v 1))) (.k (.int 0))) (.p2 .eq (.p2 .idx (.v 1) (.p1 .len (.v 0))) (.k (.int 1))))]
def d15 : DefE := ⟨"is_node_ahead", top 33, ["one", "other"], ["one", "other", "near", "far"], b15⟩
/-- is_ahead_by(timeline, one, other) -/
def b16 : List S := [.ite (.p1 (.isT "str") (.v 0)) [.ret (.k (.bl false))] [], .ite (.p2 .eq (.p2 .idx (.v 1) (.k (.int 0))) (.p2 .idx (.v 2) (.k (.int 0)))) [.ret (.call 16 [(.call 11 [(.v 0), (.p2 .idx (.v 1) (.k (.int 0)))] [0, 1]), (.p2 .idx (.v 1) (.k (.int 1))), (.p2 .idx (.v 2) (.k (.int 1)))] [0, 1, 2])] [], .ite (.p2 .eq (.p2 .idx (.v 0) (.k (.int 0))) (.k (.str "mix"))) [.ret (.call 15 [(.p2 .idx (.v 1) (.k (.int 0))), (.p2 .idx (.v 2) (.k (.int 0)))] [0, 1])] [], .ret (.ite (.p2 .eq (.p2 .idx (.v 0) (.k (.int 0))) (.k (.str "from"))) (.p2 .gt (.p2 .idx (.v 1) (.k (.int 0))) (.p2 .idx (.v 2) (.k (.int 0)))) (.p2 .lt (.p2 .idx (.v 1) (.k (.int 0))) (.p2 .idx (.v 2) (.k (.int 0)))))]
def d16 : DefE := ⟨"is_ahead_by", top 34, ["timeline", "one", "other"], ["timeline", "one", "other"], b16⟩
/-- want_place(timeline, address) -/
def b17 : List S := [.ex (.call 8 [(.v 0)] [0]), .ite (.p1 .not (.call 13 [(.v 0), (.v 1)] [0, 1])) [.stuck] []]
def d17 : DefE := ⟨"want_place", top 35, ["timeline", "address"], ["timeline", "address"], b17⟩
/-- want_other(timeline, other) -/
def b18 : List S := [.ite (.p1 .not (.call 13 [(.v 0), (.v 1)] [0, 1])) [.stuck] []]
def d18 : DefE := ⟨"want_other", top 36, ["timeline", "other"], ["timeline", "other"], b18⟩
/-- is_address(timeline, value) -/
def b19 : List S := [.ex (.call 8 [(.v 0)] [0]), .ret (.call 13 [(.v 0), (.v 1)] [0, 1])]
def d19 : DefE := ⟨"is_address", top 37, ["timeline", "value"], ["timeline", "value"], b19⟩
/-- is_path(timeline, value) -/
def b20 : List S := [.ex (.call 8 [(.v 0)] [0]), .ret (.call 12 [(.v 0), (.v 1)] [0, 1])]
def d20 : DefE := ⟨"is_path", top 38, ["timeline", "value"], ["timeline", "value"], b20⟩
/-- letter_at(timeline, address) -/
def b21 : List S := [.ex (.call 17 [(.v 0), (.v 1)] [0, 1]), .ret (.call 14 [(.v 0), (.v 1)] [0, 1])]
def d21 : DefE := ⟨"letter_at", top 39, ["timeline", "address"], ["timeline", "address"], b21⟩
/-- is_ahead(timeline, address, other) -/
def b22 : List S := [.ex (.call 17 [(.v 0), (.v 1)] [0, 1]), .ex (.call 18 [(.v 0), (.v 2)] [0, 1]), .ret (.call 16 [(.v 0), (.v 1), (.v 2)] [0, 1, 2])]
def d22 : DefE := ⟨"is_ahead", top 40, ["timeline", "address", "other"], ["timeline", "address", "other"], b22⟩
/-- _law_pot(script, k) -/
def b23 : List S := [.asg 2 (.ite (.p2 .lt (.v 1) (.p1 .len (.v 0))) (.p1 .abs (.p2 .idx (.v 0) (.v 1))) (.p2 .add (.p2 .mul (.k (.int 2518)) (.v 1)) (.k (.int 3743)))), .ret (.lst [(.p2 .max2 (.k (.int 0)) (.p2 .sub (.v 2) (.p2 .pow (.k (.int 10)) (.k (.int 18))))), (.p2 .add (.p2 .mod (.p1 .int (.p2 .add (.p2 .add (.p2 .mul (.p2 .mod (.p1 .int (.v 2)) (.k (.int 2147483549))) (.k (.int 41554))) (.p2 .mul (.k (.int 2518)) (.v 1))) (.k (.int 2577)))) (.k (.int 2147483579))) (.k (.int 1)))])]
def d23 : DefE := ⟨"_law_pot", top 42, ["script", "k"], ["script", "k", "cell"], b23⟩
/-- _law_draw(pot, many) -/
def b24 : List S := [.ite (.p2 .gt (.p2 .idx (.v 0) (.k (.int 0))) (.k (.int 0))) [.asgST (.v 0) (.k (.int 0)) 2 (.p2 .divmod (.p2 .idx (.v 0) (.k (.int 0))) (.v 1)), .ret (.v 2)] [], .asgS (.v 0) (.k (.int 1)) (.p2 .mod (.p1 .int (.p2 .add (.p2 .mul (.p2 .idx (.v 0) (.k (.int 1))) (.k (.int 41554))) (.k (.int 2577)))) (.k (.int 2147483587))), .ret (.p2 .mod (.p1 .int (.p2 .fdiv (.p2 .mod (.p1 .int (.p2 .mul (.p2 .idx (.v 0) (.k (.int 1))) (.p2 .idx (.v 0) (.k (.int 1))))) (.k (.int 2147483579))) (.k (.int 25)))) (.v 1))]
def d24 : DefE := ⟨"_law_draw", top 43, ["pot", "many"], ["pot", "many", "digit"], b24⟩
/-- _law_pick(pot, some) -/
def b25 : List S := [.ret (.p2 .idx (.v 1) (.call 24 [(.v 0), (.p1 .len (.v 1))] [0, 1]))]
def d25 : DefE := ⟨"_law_pick", top 44, ["pot", "some"], ["pot", "some"], b25⟩
/-- _law_time(pot, letters, words, deep) -/
def b26 : List S := [.asg 4 (.ite (.p2 .gt (.v 3) (.k (.int 1))) (.call 25 [(.v 0), (.p2 .add (.lst [(.k (.str "letter")), (.k (.str "letter")), (.k (.str "row")), (.k (.str "row"))]) (.v 2))] [0, 1]) (.k (.str "letter"))), .ite (.p2 .eq (.v 4) (.k (.str "letter"))) [.ret (.call 25 [(.v 0), (.v 1)] [0, 1])] [], .ite (.p2 .inn (.v 4) (.tup [(.k (.str "on")), (.k (.str "from"))])) [.ret (.tup [(.v 4), (.call 26 [(.v 0), (.v 1), (.v 2), (.p2 .sub (.v 3) (.k (.int 1)))] [0, 1, 2, 3])])] [], .asg 5 (.ite (.p2 .eq (.v 4) (.k (.str "row"))) (.p2 .add (.k (.int 2)) (.call 24 [(.v 0), (.ite (.p2 .lt (.v 3) (.k (.int 5))) (.k (.int 2)) (.k (.int 1)))] [0, 1])) (.p2 .add (.k (.int 1)) (.call 24 [(.v 0), (.ite (.p2 .lt (.v 3) (.k (.int 4))) (.k (.int 3)) (.k (.int 2)))] [0, 1]))), .asg 6 (.comp 3 [(.v 5)] (.n 7) (.k (.bl true)) (.call 26 [(.v 0), (.v 1), (.v 2), (.p2 .sub (.v 3) (.k (.int 1)))] [0, 1, 2, 3])), .ret (.ite (.p2 .eq (.v 4) (.k (.str "row"))) (.call 27 [(.v 6)] [0]) (.tup [(.v 4), (.p1 .tuple (.v 6))]))]
def d26 : DefE := ⟨"_law_time", top 45, ["pot", "letters", "words", "deep"], ["pot", "letters", "words", "deep", "word", "many", "parts", "turn"], b26⟩
/-- _law_flat(parts) -/
def b27 : List S := [.asg 1 (.lst []), .for_ 0 [(.v 0)] (.n 2) [.ex (.m1 .l .extend (.v 1) (.ite (.and (.p1 .not (.p1 (.isT "str") (.v 2))) (.p2 .eq (.p2 .idx (.v 2) (.k (.int 0))) (.k (.str "row")))) (.p1 .list (.p2 .idx (.v 2) (.k (.int 1)))) (.lst [(.v 2)])))], .ret (.ite (.p2 .gt (.p1 .len (.v 1)) (.k (.int 1))) (.tup [(.k (.str "row")), (.p1 .tuple (.v 1))]) (.p2 .idx (.v 1) (.k (.int 0))))]
def d27 : DefE := ⟨"_law_flat", top 46, ["parts"], ["parts", "found", "one"], b27⟩
/-- _law_all_words() -/
def b28 : List S := [.ret (.lst [(.k (.str "on")), (.k (.str "from")), (.k (.str "mix")), (.k (.str "on")), (.k (.str "from"))])]
def d28 : DefE := ⟨"_law_all_words", top 47, [], [], b28⟩
/-- _law_address(pot, timeline) -/
def b29 : List S := [.ite (.p1 (.isT "str") (.v 1)) [.ret (.tup [])] [], .asgT [2, 3] (.v 1), .ite (.p2 .eq (.v 2) (.k (.str "row"))) [.asg 4 (.call 24 [(.v 0), (.p1 .len (.v 3))] [0, 1]), .ret (.tup [(.v 4), (.call 29 [(.v 0), (.p2 .idx (.v 3) (.v 4))] [0, 1])])] [], .ite (.p2 .eq (.v 2) (.k (.str "mix"))) [.asg 5 (.p1 .tuple (.comp 3 [(.call 24 [(.v 0), (.k (.int 6))] [0, 1])] (.n 6) (.k (.bl true)) (.call 24 [(.v 0), (.k (.int 2))] [0, 1]))), .ret (.tup [(.v 5), (.call 29 [(.v 0), (.p2 .idx (.v 3) (.p2 .mod (.p1 .int (.p1 .len (.v 5))) (.p1 .len (.v 3))))] [0, 1])])] [], .ret (.tup [(.call 24 [(.v 0), (.call 25 [(.v 0), (.lst [(.k (.int 1)), (.k (.int 2)), (.k (.int 3)), (.k (.int 40))])] [0, 1])] [0, 1]), (.call 29 [(.v 0), (.v 3)] [0, 1])])]
def d29 : DefE := ⟨"_law_address", top 48, ["pot", "timeline"], ["pot", "timeline", "word", "told", "at", "node", "bit"], b29⟩
/-- _law_lies(timeline, address) -/
def b30 : List S := [.asgP [2, 3, 4] [(.k (.int 0)), (.k (.int 1)), (.k (.int 1))], .wh (.p1 .not (.p1 (.isT "str") (.v 0))) [.asgT [5, 6] (.v 0), .asgT [7, 1] (.v 1), .ite (.p2 .eq (.v 5) (.k (.str "row"))) [.asgP [2, 4, 0] [(.p2 .add (.p2 .mul (.v 2) (.p1 .len (.v 6))) (.p2 .mul (.v 7) (.v 3))), (.p2 .mul (.v 4) (.p1 .len (.v 6))), (.p2 .idx (.v 6) (.v 7))]] [.ite (.p2 .eq (.v 5) (.k (.str "mix"))) [.for_ 0 [(.v 7)] (.n 8) [.asgP [2, 4] [(.p2 .add (.p2 .mul (.v 2) (.k (.int 3))) (.p2 .mul (.p2 .mul (.k (.int 2)) (.v 8)) (.v 3))), (.p2 .mul (.v 4) (.k (.int 3)))]], .asgP [2, 4, 0] [(.p2 .add (.p2 .mul (.v 2) (.k (.int 3))) (.v 3)), (.p2 .mul (.v 4) (.k (.int 3))), (.p2 .idx (.v 6) (.p2 .mod (.p1 .int (.p1 .len (.v 7))) (.p1 .len (.v 6))))]] [.asg 9 (.k (.int 2)), .for_ 3 [(.v 7)] (.n 10) [.asg 9 (.p2 .mul (.v 9) (.k (.int 2)))], .asgP [2, 4, 0] [(.p2 .add (.p2 .mul (.v 2) (.v 9)) (.ite (.p2 .eq (.v 5) (.k (.str "on"))) (.p2 .mul (.v 3) (.p2 .sub (.v 9) (.k (.int 2)))) (.v 3))), (.p2 .mul (.v 4) (.v 9)), (.v 6)]]]], .ret (.tup [(.p2 .add (.p2 .mul (.k (.int 2)) (.v 2)) (.v 3)), (.p2 .mul (.k (.int 2)) (.v 4))])]
def d30 : DefE := ⟨"_law_lies", top 49, ["timeline", "address"], ["timeline", "address", "low", "wide", "below", "word", "told", "step", "bit", "halves", "turn"], b30⟩
/-- _law_is_ahead(timeline, one, other) -/
def b31 : List S := [.asgP [3, 4] [(.call 30 [(.v 0), (.v 1)] [0, 1]), (.call 30 [(.v 0), (.v 2)] [0, 1])], .ret (.p2 .lt (.p2 .mul (.p2 .idx (.v 3) (.k (.int 0))) (.p2 .idx (.v 4) (.k (.int 1)))) (.p2 .mul (.p2 .idx (.v 4) (.k (.int 0))) (.p2 .idx (.v 3) (.k (.int 1)))))]
def d31 : DefE := ⟨"_law_is_ahead", top 50, ["timeline", "one", "other"], ["timeline", "one", "other", "near", "far"], b31⟩
/-- _law_is_step(timeline, value) -/
def b32 : List S := [.asgT [2, 3] (.v 0), .ite (.p2 .eq (.v 2) (.k (.str "mix"))) [.ret (.and (.p1 (.isT "tuple") (.v 1)) (.and (.p2 .le (.p1 .len (.v 1)) (.k (.int 100))) (.p1 .all (.comp 0 [(.v 1)] (.n 4) (.k (.bl true)) (.and (.p1 (.isT "int") (.v 4)) (.and (.p1 .not (.p1 (.isT "bool") (.v 4))) (.p2 .inn (.v 4) (.tup [(.k (.int 0)), (.k (.int 1))]))))))))] [], .ite (.or (.p1 .not (.p1 (.isT "int") (.v 1))) (.p1 (.isT "bool") (.v 1))) [.ret (.k (.bl false))] [], .ret (.chain .le .lt (.k (.int 0)) (.v 1) (.ite (.p2 .eq (.v 2) (.k (.str "row"))) (.p1 .len (.v 3)) (.p2 .pow (.k (.int 10)) (.k (.int 30)))))]
def d32 : DefE := ⟨"_law_is_step", top 51, ["timeline", "value"], ["timeline", "value", "word", "told", "bit"], b32⟩
/-- _law_part(timeline, step) -/
def b33 : List S := [.asgT [2, 3] (.v 0), .ite (.p2 .inn (.v 2) (.tup [(.k (.str "on")), (.k (.str "from"))])) [.ret (.v 3)] [], .ret (.ite (.p2 .eq (.v 2) (.k (.str "row"))) (.p2 .idx (.v 3) (.v 1)) (.p2 .idx (.v 3) (.p2 .mod (.p1 .int (.p1 .len (.v 1))) (.p1 .len (.v 3)))))]
def d33 : DefE := ⟨"_law_part", top 52, ["timeline", "step"], ["timeline", "step", "word", "told"], b33⟩
/-- _law_piece(timeline, value) -/
def b34 : List S := [.ite (.p1 .not (.p1 (.isT "tuple") (.v 1))) [.ret (.k .non)] [], .for_ 0 [(.v 1)] (.n 2) [.ite (.or (.p1 (.isT "str") (.v 0)) (.p1 .not (.call 32 [(.v 0), (.v 2)] [0, 1]))) [.ret (.k .non)] [], .asg 0 (.call 33 [(.v 0), (.v 2)] [0, 1])], .ret (.v 0)]
def d34 : DefE := ⟨"_law_piece", top 53, ["timeline", "value"], ["timeline", "value", "step"], b34⟩
/-- _law_letter(timeline, value) -/
def b35 : List S := [.for_ 3 [(.k (.int 40))] (.n 2) [.ite (.p1 (.isT "str") (.v 0)) [.ret (.ite (.and (.p1 (.isT "tuple") (.v 1)) (.p2 .eq (.v 1) (.tup []))) (.v 0) (.k .non))] [], .ite (.or (.p1 .not (.p1 (.isT "tuple") (.v 1))) (.or (.p2 .ne (.p1 .len (.v 1)) (.k (.int 2))) (.p1 .not (.call 32 [(.v 0), (.p2 .idx (.v 1) (.k (.int 0)))] [0, 1])))) [.ret (.k .non)] [], .asgP [0, 1] [(.call 33 [(.v 0), (.p2 .idx (.v 1) (.k (.int 0)))] [0, 1]), (.p2 .idx (.v 1) (.k (.int 1)))]], .ret (.k .non)]
def d35 : DefE := ⟨"_law_letter", top 54, ["timeline", "value"], ["timeline", "value", "turn"], b35⟩
/-- _law_bent(pot, value) -/
def b36 : List S := [.asgP [5, 6] [(.lst []), (.v 1)], .for_ 3 [(.call 24 [(.v 0), (.k (.int 6))] [0, 1])] (.n 2) [.ite (.and (.p1 (.isT "tuple") (.v 6)) (.p2 .ne (.v 6) (.tup []))) [.ex (.m1 .l .append (.v 5) (.tup [(.v 6), (.call 24 [(.v 0), (.p1 .len (.v 6))] [0, 1])])), .asg 6 (.p2 .idx (.v 6) (.p2 .idx (.p2 .idx (.v 5) (.p1 .neg (.k (.int 1)))) (.k (.int 1))))] []], .asg 3 (.lst [(.k .non), (.k (.int 0)), (.k (.int 1)), (.k (.int 7)), (.p1 .neg (.k (.int 1))), (.k (.bl true)), (.k (.str "0")), (.tup []), (.tup [(.k (.int 0))]), (.tup [(.k (.int 0)), (.k (.int 1))]), (.tup [(.k (.int 0)), (.tup [])]), (.lst [(.v 6)]), (.tup [(.v 6)]), (.p2 .sub (.p2 .pow (.k (.int 10)) (.k (.int 30))) (.k (.int 1))), (.p2 .pow (.k (.int 10)) (.k (.int 30))), (.p2 .mul (.tup [(.k (.int 0))]) (.k (.int 100))), (.p2 .mul (.tup [(.k (.int 1))]) (.k (.int 101))), (.tup [(.k (.int 2))])]), .asg 4 (.call 25 [(.v 0), (.p2 .add (.v 3) (.ite (.p1 (.isT "tuple") (.v 6)) (.lst [(.p1 .list (.v 6)), (.p3 (.slice false true) (.v 6) (.k .non) (.p1 .neg (.k (.int 1)))), (.p2 .add (.v 6) (.p3 (.slice true false) (.v 6) (.p1 .neg (.k (.int 1))) (.k .non))), (.p1 .rev (.v 6))]) (.lst [])))] [0, 1]), .for_ 0 [(.p1 .rev (.v 5))] (.t [7, 8]) [.asg 4 (.p2 .add (.p2 .add (.p3 (.slice false true) (.v 7) (.k .non) (.v 8)) (.tup [(.v 4)])) (.p3 (.slice true false) (.v 7) (.p2 .add (.v 8) (.k (.int 1))) (.k .non)))], .ret (.v 4)]
def d36 : DefE := ⟨"_law_bent", top 55, ["pot", "value"], ["pot", "value", "turn", "odds", "late", "way", "here", "ahead", "at"], b36⟩
/-- _law_path_of(address, many) -/
def b37 : List S := [.asg 2 (.tup []), .wh (.and (.p2 .lt (.p1 .len (.v 2)) (.v 1)) (.p2 .ne (.v 0) (.tup []))) [.asgP [2, 0] [(.p2 .add (.v 2) (.tup [(.p2 .idx (.v 0) (.k (.int 0)))])), (.p2 .idx (.v 0) (.k (.int 1)))]], .ret (.v 2)]
def d37 : DefE := ⟨"_law_path_of", top 56, ["address", "many"], ["address", "many", "found"], b37⟩
/-- _law_right(pot) -/
def b38 : List S := [.asg 1 (.call 26 [(.v 0), (.call 25 [(.v 0), (.lst [(.k (.str "a")), (.k (.str "ab")), (.k (.str "abx"))])] [0, 1]), (.call 28 [] []), (.k (.int 5))] [0, 1, 2, 3]), .asgP [5, 6] [(.p1 .repr (.v 1)), (.comp 3 [(.k (.int 6))] (.n 12) (.k (.bl true)) (.call 29 [(.v 0), (.v 1)] [0, 1]))], .for_ 0 [(.p2 .add (.p2 .add (.v 6) (.lst [(.k .non), (.tup []), (.k (.int 0)), (.lst [(.k (.int 0)), (.tup [])])])) (.comp 3 [(.k (.int 10))] (.n 12) (.k (.bl true)) (.call 36 [(.v 0), (.call 25 [(.v 0), (.v 6)] [0, 1])] [0, 1])))] (.n 2) [.asgP [9, 10] [(.call 35 [(.v 1), (.v 2)] [0, 1]), (.p1 .repr (.v 2))], .ite (.or (.p2 .ne (.p1 .repr (.lst [(.call 19 [(.v 1), (.v 2)] [0, 1]), (.call 19 [(.v 2), (.v 1)] [1, 0])])) (.p1 .repr (.p2 .mul (.lst [(.p2 .isn (.v 9) (.k .non))]) (.k (.int 2))))) (.p2 .ne (.p1 .repr (.v 2)) (.v 10))) [.ret (.k (.bl false))] [], .ite (.and (.p2 .isn (.v 9) (.k .non)) (.p2 .ne (.lst [(.call 21 [(.v 1), (.v 2)] [0, 1]), (.call 21 [(.v 2), (.v 1)] [1, 0])]) (.lst [(.v 9), (.v 9)]))) [.ret (.k (.bl false))] []], .asg 3 (.comp 0 [(.v 6)] (.n 11) (.k (.bl true)) (.call 37 [(.v 11), (.call 24 [(.v 0), (.k (.int 6))] [0, 1])] [0, 1])), .for_ 0 [(.p2 .add (.p2 .add (.v 3) (.lst [(.k .non), (.k (.int 0)), (.p1 .list (.p2 .idx (.v 3) (.k (.int 0))))])) (.comp 3 [(.k (.int 8))] (.n 12) (.k (.bl true)) (.call 36 [(.v 0), (.call 25 [(.v 0), (.v 3)] [0, 1])] [0, 1])))] (.n 2) [.asg 7 (.p2 .isn (.call 34 [(.v 1), (.v 2)] [0, 1]) (.k .non)), .ite (.p2 .ne (.p1 .repr (.lst [(.call 20 [(.v 1), (.v 2)] [0, 1]), (.call 20 [(.v 2), (.v 1)] [1, 0])])) (.p1 .repr (.lst [(.v 7), (.v 7)]))) [.ret (.k (.bl false))] []], .for_ 0 [(.v 6)] (.n 4) [.for_ 0 [(.v 6)] (.n 8) [.asg 7 (.call 31 [(.v 1), (.v 4), (.v 8)] [0, 1, 2]), .ite (.p2 .ne (.p1 .repr (.lst [(.call 22 [(.v 1), (.v 4), (.v 8)] [0, 1, 2]), (.call 22 [(.v 8), (.v 4), (.v 1)] [2, 1, 0])])) (.p1 .repr (.lst [(.v 7), (.v 7)]))) [.ret (.k (.bl false))] [], .ite (.and (.p2 .ne (.v 4) (.v 8)) (.p2 .eq (.v 7) (.call 31 [(.v 1), (.v 8), (.v 4)] [0, 1, 2]))) [.ret (.k (.bl false))] []]], .ret (.p2 .eq (.p1 .repr (.v 1)) (.v 5))]
def d38 : DefE := ⟨"_law_right", top 57, ["pot"], ["pot", "one", "value", "paths", "near", "shown", "places", "due", "far", "letter", "looks", "place", "turn"], b38⟩
/-- law(script) -/
def b39 : List S := [.ret (.p1 .all (.comp 3 [(.k (.int 3))] (.n 1) (.k (.bl true)) (.call 38 [(.call 23 [(.v 0), (.v 1)] [0, 1])] [0])))]
def d39 : DefE := ⟨"law", top 58, ["script"], ["script", "k"], b39⟩
def ds : List DefE := [d0, d1, d2, d3, d4, d5, d6, d7, d8, d9, d10, d11, d12, d13, d14, d15, d16, d17, d18, d19, d20, d21, d22, d23, d24, d25, d26, d27, d28, d29, d30, d31, d32, d33, d34, d35, d36, d37, d38, d39]
theorem k0 : chkDef ds con blt d0 = true := by decide +kernel
theorem k1 : chkDef ds con blt d1 = true := by decide +kernel
theorem k2 : chkDef ds con blt d2 = true := by decide +kernel
theorem k3 : chkDef ds con blt d3 = true := by decide +kernel
theorem k4 : chkDef ds con blt d4 = true := by decide +kernel
theorem k5 : chkDef ds con blt d5 = true := by decide +kernel
theorem k6 : chkDef ds con blt d6 = true := by decide +kernel
theorem k7 : chkDef ds con blt d7 = true := by decide +kernel
theorem k8 : chkDef ds con blt d8 = true := by decide +kernel
theorem k9 : chkDef ds con blt d9 = true := by decide +kernel
theorem k10 : chkDef ds con blt d10 = true := by decide +kernel
theorem k11 : chkDef ds con blt d11 = true := by decide +kernel
theorem k12 : chkDef ds con blt d12 = true := by decide +kernel
theorem k13 : chkDef ds con blt d13 = true := by decide +kernel
theorem k14 : chkDef ds con blt d14 = true := by decide +kernel
theorem k15 : chkDef ds con blt d15 = true := by decide +kernel
theorem k16 : chkDef ds con blt d16 = true := by decide +kernel
theorem k17 : chkDef ds con blt d17 = true := by decide +kernel
theorem k18 : chkDef ds con blt d18 = true := by decide +kernel
theorem k19 : chkDef ds con blt d19 = true := by decide +kernel
theorem k20 : chkDef ds con blt d20 = true := by decide +kernel
theorem k21 : chkDef ds con blt d21 = true := by decide +kernel
theorem k22 : chkDef ds con blt d22 = true := by decide +kernel
theorem k23 : chkDef ds con blt d23 = true := by decide +kernel
theorem k24 : chkDef ds con blt d24 = true := by decide +kernel
theorem k25 : chkDef ds con blt d25 = true := by decide +kernel
theorem k26 : chkDef ds con blt d26 = true := by decide +kernel
theorem k27 : chkDef ds con blt d27 = true := by decide +kernel
theorem k28 : chkDef ds con blt d28 = true := by decide +kernel
theorem k29 : chkDef ds con blt d29 = true := by decide +kernel
theorem k30 : chkDef ds con blt d30 = true := by decide +kernel
theorem k31 : chkDef ds con blt d31 = true := by decide +kernel
theorem k32 : chkDef ds con blt d32 = true := by decide +kernel
theorem k33 : chkDef ds con blt d33 = true := by decide +kernel
theorem k34 : chkDef ds con blt d34 = true := by decide +kernel
theorem k35 : chkDef ds con blt d35 = true := by decide +kernel
theorem k36 : chkDef ds con blt d36 = true := by decide +kernel
theorem k37 : chkDef ds con blt d37 = true := by decide +kernel
theorem k38 : chkDef ds con blt d38 = true := by decide +kernel
theorem k39 : chkDef ds con blt d39 = true := by decide +kernel
end K14

namespace K14
open Nx Px
theorem at14 : K14At (tabOf ds) where
  A := { M := ⟨rfl, rfl, rfl, rfl, rfl⟩, P := ⟨rfl, rfl, rfl, rfl, rfl⟩, t7 := rfl, t8 := rfl, t12 := rfl, t13 := rfl, t14 := rfl, t15 := rfl, t16 := rfl, t17 := rfl, t18 := rfl, t19 := rfl, t20 := rfl, t21 := rfl, t22 := rfl }
  T := { P := ⟨⟨41554, 2577, 2147483587, 2147483579, 25, rfl, ⟨by omega, by omega, by omega, by omega, by omega⟩⟩, rfl⟩, time := rfl, flat := rfl }
  words := rfl
  addr := rfl
  lies := rfl
  ahead := rfl
  step := rfl
  part := rfl
  piece := rfl
  letter := rfl
  bent := rfl
  path := rfl
  right := rfl
theorem pot14 : PotNums 2518 3743 2147483549 41554 2577 2147483579 := ⟨by omega, by omega, by omega, by omega, by omega, by omega⟩
theorem says : ∀ ns : List Int, ns.length ≤ 63 → (∀ z ∈ ns, PySem.Builtin.Int.intBits z ≤ 1048576) → ∃ st', evF (tabOf ds) 100 39 [scriptD ns] [] = some (.bl true, st') := by
  intro ns _ _
  obtain ⟨⟨d, s⟩, e, q⟩ := w_law3 (k := 98) (ns := ns) (tab := tabOf ds) (il := 39) (ir := 38) (ip := 23) rfl rfl pot14 fun lp st P => w_right (k := 38) at14 P
  simp only at q
  subst q
  exact ⟨s, e⟩
end K14

namespace K14
open Nx
theorem chk : ∀ d ∈ ds, chkDef ds con blt d = true := all_cons k0 (all_cons k1 (all_cons k2 (all_cons k3 (all_cons k4 (all_cons k5 (all_cons k6 (all_cons k7 (all_cons k8 (all_cons k9 (all_cons k10 (all_cons k11 (all_cons k12 (all_cons k13 (all_cons k14 (all_cons k15 (all_cons k16 (all_cons k17 (all_cons k18 (all_cons k19 (all_cons k20 (all_cons k21 (all_cons k22 (all_cons k23 (all_cons k24 (all_cons k25 (all_cons k26 (all_cons k27 (all_cons k28 (all_cons k29 (all_cons k30 (all_cons k31 (all_cons k32 (all_cons k33 (all_cons k34 (all_cons k35 (all_cons k36 (all_cons k37 (all_cons k38 (all_cons k39 (all_nil))))))))))))))))))))))))))))))))))))))))
end K14
open PySem PySem.W PyProof.Rows in
set_option maxRecDepth 100000 in
set_option maxHeartbeats 0 in
theorem PySem.Challenge.cw_nextless_k14_any_value_as_address_ahead_holds : PySem.Challenge.rw_nextless_k14_any_value_as_address_ahead.Holds := by
  w_on; o_law; k_head; (case hw => w_witness2)
  k_fill
  refine Nx.walk_G (F := Nx.evF (Nx.tabOf K14.ds) 100 39) (k := 100) (n := 63) (x := "script") rfl (by decide) rfl ⟨rfl, by decide, by decide⟩ (fun w h Y => PySem.W.kIn_of Y) ?G K14.says
  case G =>
    intro w mg fa h KX GX hmg
    have h0 : Nx.HasDef (L2.KOf KX) mg "is_integer" (K14.top 1) := by
      refine' Nx.def_mk KX GX ?a ?l ?c ?k
      (case a => k_is); (case l => k_is); (case c => k_is); (case k => k_is)
    have h1 : Nx.HasDef (L2.KOf KX) mg "is_within" (K14.top 2) := by
      refine' Nx.def_mk KX GX ?a ?l ?c ?k
      (case a => k_is); (case l => k_is); (case c => k_is); (case k => k_is)
    have h2 : Nx.HasDef (L2.KOf KX) mg "is_tuple" (K14.top 3) := by
      refine' Nx.def_mk KX GX ?a ?l ?c ?k
      (case a => k_is); (case l => k_is); (case c => k_is); (case k => k_is)
    have h3 : Nx.HasDef (L2.KOf KX) mg "is_small" (K14.top 18) := by
      refine' Nx.def_mk KX GX ?a ?l ?c ?k
      (case a => k_is); (case l => k_is); (case c => k_is); (case k => k_is)
    have h4 : Nx.HasDef (L2.KOf KX) mg "is_letter_value" (K14.top 19) := by
      refine' Nx.def_mk KX GX ?a ?l ?c ?k
      (case a => k_is); (case l => k_is); (case c => k_is); (case k => k_is)
    have h5 : Nx.HasDef (L2.KOf KX) mg "are_parts" (K14.top 20) := by
      refine' Nx.def_mk KX GX ?a ?l ?c ?k
      (case a => k_is); (case l => k_is); (case c => k_is); (case k => k_is)
    have h6 : Nx.HasDef (L2.KOf KX) mg "measures" (K14.top 21) := by
      refine' Nx.def_mk KX GX ?a ?l ?c ?k
      (case a => k_is); (case l => k_is); (case c => k_is); (case k => k_is)
    have h7 : Nx.HasDef (L2.KOf KX) mg "is_timeline_value" (K14.top 22) := by
      refine' Nx.def_mk KX GX ?a ?l ?c ?k
      (case a => k_is); (case l => k_is); (case c => k_is); (case k => k_is)
    have h8 : Nx.HasDef (L2.KOf KX) mg "want_timeline" (K14.top 23) := by
      refine' Nx.def_mk KX GX ?a ?l ?c ?k
      (case a => k_is); (case l => k_is); (case c => k_is); (case k => k_is)
    have h9 : Nx.HasDef (L2.KOf KX) mg "is_node" (K14.top 27) := by
      refine' Nx.def_mk KX GX ?a ?l ?c ?k
      (case a => k_is); (case l => k_is); (case c => k_is); (case k => k_is)
    have h10 : Nx.HasDef (L2.KOf KX) mg "is_step" (K14.top 28) := by
      refine' Nx.def_mk KX GX ?a ?l ?c ?k
      (case a => k_is); (case l => k_is); (case c => k_is); (case k => k_is)
    have h11 : Nx.HasDef (L2.KOf KX) mg "inner" (K14.top 29) := by
      refine' Nx.def_mk KX GX ?a ?l ?c ?k
      (case a => k_is); (case l => k_is); (case c => k_is); (case k => k_is)
    have h12 : Nx.HasDef (L2.KOf KX) mg "is_path_value" (K14.top 30) := by
      refine' Nx.def_mk KX GX ?a ?l ?c ?k
      (case a => k_is); (case l => k_is); (case c => k_is); (case k => k_is)
    have h13 : Nx.HasDef (L2.KOf KX) mg "is_address_value" (K14.top 31) := by
      refine' Nx.def_mk KX GX ?a ?l ?c ?k
      (case a => k_is); (case l => k_is); (case c => k_is); (case k => k_is)
    have h14 : Nx.HasDef (L2.KOf KX) mg "letter_by" (K14.top 32) := by
      refine' Nx.def_mk KX GX ?a ?l ?c ?k
      (case a => k_is); (case l => k_is); (case c => k_is); (case k => k_is)
    have h15 : Nx.HasDef (L2.KOf KX) mg "is_node_ahead" (K14.top 33) := by
      refine' Nx.def_mk KX GX ?a ?l ?c ?k
      (case a => k_is); (case l => k_is); (case c => k_is); (case k => k_is)
    have h16 : Nx.HasDef (L2.KOf KX) mg "is_ahead_by" (K14.top 34) := by
      refine' Nx.def_mk KX GX ?a ?l ?c ?k
      (case a => k_is); (case l => k_is); (case c => k_is); (case k => k_is)
    have h17 : Nx.HasDef (L2.KOf KX) mg "want_place" (K14.top 35) := by
      refine' Nx.def_mk KX GX ?a ?l ?c ?k
      (case a => k_is); (case l => k_is); (case c => k_is); (case k => k_is)
    have h18 : Nx.HasDef (L2.KOf KX) mg "want_other" (K14.top 36) := by
      refine' Nx.def_mk KX GX ?a ?l ?c ?k
      (case a => k_is); (case l => k_is); (case c => k_is); (case k => k_is)
    have h19 : Nx.HasDef (L2.KOf KX) mg "is_address" (K14.top 37) := by
      refine' Nx.def_mk KX GX ?a ?l ?c ?k
      (case a => k_is); (case l => k_is); (case c => k_is); (case k => k_is)
    have h20 : Nx.HasDef (L2.KOf KX) mg "is_path" (K14.top 38) := by
      refine' Nx.def_mk KX GX ?a ?l ?c ?k
      (case a => k_is); (case l => k_is); (case c => k_is); (case k => k_is)
    have h21 : Nx.HasDef (L2.KOf KX) mg "letter_at" (K14.top 39) := by
      refine' Nx.def_mk KX GX ?a ?l ?c ?k
      (case a => k_is); (case l => k_is); (case c => k_is); (case k => k_is)
    have h22 : Nx.HasDef (L2.KOf KX) mg "is_ahead" (K14.top 40) := by
      refine' Nx.def_mk KX GX ?a ?l ?c ?k
      (case a => k_is); (case l => k_is); (case c => k_is); (case k => k_is)
    have h23 : Nx.HasDef (L2.KOf KX) mg "_law_pot" (K14.top 42) := by
      refine' Nx.def_mk KX GX ?a ?l ?c ?k
      (case a => k_is); (case l => k_is); (case c => k_is); (case k => k_is)
    have h24 : Nx.HasDef (L2.KOf KX) mg "_law_draw" (K14.top 43) := by
      refine' Nx.def_mk KX GX ?a ?l ?c ?k
      (case a => k_is); (case l => k_is); (case c => k_is); (case k => k_is)
    have h25 : Nx.HasDef (L2.KOf KX) mg "_law_pick" (K14.top 44) := by
      refine' Nx.def_mk KX GX ?a ?l ?c ?k
      (case a => k_is); (case l => k_is); (case c => k_is); (case k => k_is)
    have h26 : Nx.HasDef (L2.KOf KX) mg "_law_time" (K14.top 45) := by
      refine' Nx.def_mk KX GX ?a ?l ?c ?k
      (case a => k_is); (case l => k_is); (case c => k_is); (case k => k_is)
    have h27 : Nx.HasDef (L2.KOf KX) mg "_law_flat" (K14.top 46) := by
      refine' Nx.def_mk KX GX ?a ?l ?c ?k
      (case a => k_is); (case l => k_is); (case c => k_is); (case k => k_is)
    have h28 : Nx.HasDef (L2.KOf KX) mg "_law_all_words" (K14.top 47) := by
      refine' Nx.def_mk KX GX ?a ?l ?c ?k
      (case a => k_is); (case l => k_is); (case c => k_is); (case k => k_is)
    have h29 : Nx.HasDef (L2.KOf KX) mg "_law_address" (K14.top 48) := by
      refine' Nx.def_mk KX GX ?a ?l ?c ?k
      (case a => k_is); (case l => k_is); (case c => k_is); (case k => k_is)
    have h30 : Nx.HasDef (L2.KOf KX) mg "_law_lies" (K14.top 49) := by
      refine' Nx.def_mk KX GX ?a ?l ?c ?k
      (case a => k_is); (case l => k_is); (case c => k_is); (case k => k_is)
    have h31 : Nx.HasDef (L2.KOf KX) mg "_law_is_ahead" (K14.top 50) := by
      refine' Nx.def_mk KX GX ?a ?l ?c ?k
      (case a => k_is); (case l => k_is); (case c => k_is); (case k => k_is)
    have h32 : Nx.HasDef (L2.KOf KX) mg "_law_is_step" (K14.top 51) := by
      refine' Nx.def_mk KX GX ?a ?l ?c ?k
      (case a => k_is); (case l => k_is); (case c => k_is); (case k => k_is)
    have h33 : Nx.HasDef (L2.KOf KX) mg "_law_part" (K14.top 52) := by
      refine' Nx.def_mk KX GX ?a ?l ?c ?k
      (case a => k_is); (case l => k_is); (case c => k_is); (case k => k_is)
    have h34 : Nx.HasDef (L2.KOf KX) mg "_law_piece" (K14.top 53) := by
      refine' Nx.def_mk KX GX ?a ?l ?c ?k
      (case a => k_is); (case l => k_is); (case c => k_is); (case k => k_is)
    have h35 : Nx.HasDef (L2.KOf KX) mg "_law_letter" (K14.top 54) := by
      refine' Nx.def_mk KX GX ?a ?l ?c ?k
      (case a => k_is); (case l => k_is); (case c => k_is); (case k => k_is)
    have h36 : Nx.HasDef (L2.KOf KX) mg "_law_bent" (K14.top 55) := by
      refine' Nx.def_mk KX GX ?a ?l ?c ?k
      (case a => k_is); (case l => k_is); (case c => k_is); (case k => k_is)
    have h37 : Nx.HasDef (L2.KOf KX) mg "_law_path_of" (K14.top 56) := by
      refine' Nx.def_mk KX GX ?a ?l ?c ?k
      (case a => k_is); (case l => k_is); (case c => k_is); (case k => k_is)
    have h38 : Nx.HasDef (L2.KOf KX) mg "_law_right" (K14.top 57) := by
      refine' Nx.def_mk KX GX ?a ?l ?c ?k
      (case a => k_is); (case l => k_is); (case c => k_is); (case k => k_is)
    have h39 : Nx.HasDef (L2.KOf KX) mg "law" (K14.top 58) := by
      refine' Nx.def_mk KX GX ?a ?l ?c ?k
      (case a => k_is); (case l => k_is); (case c => k_is); (case k => k_is)
    have c0 : Nx.HasCon (L2.KOf KX) mg "ALPHABET" (.str "abcdefghijklmnopqrstuvwxyz") := by
      refine' Nx.con_str KX GX ?a (by decide)
      (case a => k_is)
    have c1 : Nx.HasCon (L2.KOf KX) mg "ROW" (.str "row") := by
      refine' Nx.con_str KX GX ?a (by decide)
      (case a => k_is)
    have c2 : Nx.HasCon (L2.KOf KX) mg "ON" (.str "on") := by
      refine' Nx.con_str KX GX ?a (by decide)
      (case a => k_is)
    have c3 : Nx.HasCon (L2.KOf KX) mg "FROM" (.str "from") := by
      refine' Nx.con_str KX GX ?a (by decide)
      (case a => k_is)
    have c4 : Nx.HasCon (L2.KOf KX) mg "MIX" (.str "mix") := by
      refine' Nx.con_str KX GX ?a (by decide)
      (case a => k_is)
    have c5 : Nx.HasCon (L2.KOf KX) mg "MOST_SIZE" (.int 100) := by
      refine' Nx.con_int KX GX ?a
      (case a => k_is)
    have c6 : Nx.HasCon (L2.KOf KX) mg "MOST_DEPTH" (.int 16) := by
      refine' Nx.con_int KX GX ?a
      (case a => k_is)
    have c7 : Nx.HasCon (L2.KOf KX) mg "MOST_LETTERS" (.int 8) := by
      refine' Nx.con_int KX GX ?a
      (case a => k_is)
    have c8 : Nx.HasCon (L2.KOf KX) mg "MOST_NUMBER" (.int 1000000000000000000000000000000) := by
      refine' Nx.con_int KX GX ?a
      (case a => k_is)
    have c9 : Nx.HasCon (L2.KOf KX) mg "MOST_NODE" (.int 100) := by
      refine' Nx.con_int KX GX ?a
      (case a => k_is)
    have z0 : mg "abs" = none := by
      refine' Nx.no_blt KX GX ?a
      (case a => k_is)
    have z1 : mg "all" = none := by
      refine' Nx.no_blt KX GX ?a
      (case a => k_is)
    have z2 : mg "any" = none := by
      refine' Nx.no_blt KX GX ?a
      (case a => k_is)
    have z3 : mg "bool" = none := by
      refine' Nx.no_blt KX GX ?a
      (case a => k_is)
    have z4 : mg "divmod" = none := by
      refine' Nx.no_blt KX GX ?a
      (case a => k_is)
    have z5 : mg "int" = none := by
      refine' Nx.no_blt KX GX ?a
      (case a => k_is)
    have z6 : mg "isinstance" = none := by
      refine' Nx.no_blt KX GX ?a
      (case a => k_is)
    have z7 : mg "len" = none := by
      refine' Nx.no_blt KX GX ?a
      (case a => k_is)
    have z8 : mg "list" = none := by
      refine' Nx.no_blt KX GX ?a
      (case a => k_is)
    have z9 : mg "max" = none := by
      refine' Nx.no_blt KX GX ?a
      (case a => k_is)
    have z10 : mg "range" = none := by
      refine' Nx.no_blt KX GX ?a
      (case a => k_is)
    have z11 : mg "repr" = none := by
      refine' Nx.no_blt KX GX ?a
      (case a => k_is)
    have z12 : mg "str" = none := by
      refine' Nx.no_blt KX GX ?a
      (case a => k_is)
    have z13 : mg "tuple" = none := by
      refine' Nx.no_blt KX GX ?a
      (case a => k_is)
    have z14 : mg "zip" = none := by
      refine' Nx.no_blt KX GX ?a
      (case a => k_is)
    exact Nx.final (ds := K14.ds) (con := K14.con) (blt := K14.blt) hmg (Nx.mod_mk (cons := K14.cons) (Nx.all_cons h0 (Nx.all_cons h1 (Nx.all_cons h2 (Nx.all_cons h3 (Nx.all_cons h4 (Nx.all_cons h5 (Nx.all_cons h6 (Nx.all_cons h7 (Nx.all_cons h8 (Nx.all_cons h9 (Nx.all_cons h10 (Nx.all_cons h11 (Nx.all_cons h12 (Nx.all_cons h13 (Nx.all_cons h14 (Nx.all_cons h15 (Nx.all_cons h16 (Nx.all_cons h17 (Nx.all_cons h18 (Nx.all_cons h19 (Nx.all_cons h20 (Nx.all_cons h21 (Nx.all_cons h22 (Nx.all_cons h23 (Nx.all_cons h24 (Nx.all_cons h25 (Nx.all_cons h26 (Nx.all_cons h27 (Nx.all_cons h28 (Nx.all_cons h29 (Nx.all_cons h30 (Nx.all_cons h31 (Nx.all_cons h32 (Nx.all_cons h33 (Nx.all_cons h34 (Nx.all_cons h35 (Nx.all_cons h36 (Nx.all_cons h37 (Nx.all_cons h38 (Nx.all_cons h39 (Nx.all_nil))))))))))))))))))))))))))))))))))))))))) (Nx.all_cons c0 (Nx.all_cons c1 (Nx.all_cons c2 (Nx.all_cons c3 (Nx.all_cons c4 (Nx.all_cons c5 (Nx.all_cons c6 (Nx.all_cons c7 (Nx.all_cons c8 (Nx.all_cons c9 (Nx.all_nil))))))))))) (Nx.all_cons z0 (Nx.all_cons z1 (Nx.all_cons z2 (Nx.all_cons z3 (Nx.all_cons z4 (Nx.all_cons z5 (Nx.all_cons z6 (Nx.all_cons z7 (Nx.all_cons z8 (Nx.all_cons z9 (Nx.all_cons z10 (Nx.all_cons z11 (Nx.all_cons z12 (Nx.all_cons z13 (Nx.all_cons z14 (Nx.all_nil))))))))))))))))) K14.chk (i := 39) (d := K14.d39) rfl rfl rfl 100
